/- How long encodings are. No program in sight. The -/
import Derived.Test.YtapmgonflgahbaaGreatDoorPk45
set_option linter.unusedVariables false
namespace Go.Proofs.YtapmgonflgahbaaGreatDoor
open _root_.Go.Proofs.Tryz
section
open En
variable{α:Type}{K:Nat}
theorem Zi(f:Nat):∀n,0<n→(fE f n).length≤n:=by
 induction f with
 | zero=>intro n h; simp[fE]
 | succ f ih =>
  intro n h;unfold fE;split
  ·simp; omega
  have:=ih (n/128) (by omega);simp only[aiO]; omega
theorem Zj{R:List (Nat×dA)}:∀{last:Option dA},Px.good last R→(Px.rb R).length≤5*(Px.flat R).length:=by
 induction R with
 | nil=>intro _ _; exact aij _
 | cons z R ih =>
  intro last h;obtain⟨n,p⟩:=z;simp only[Px.good]at h;have:=ih h.2.2;have:=Zi 10 n h.1;simp only[Px.rb,Px.pb,Px.flat,aif,aiO,ai8,List.length_replicate];omega
theorem Az(l:List dA):(Px.enc l).length≤5*l.length:=by
 have h:=Px.yE l;have:=Zj h.1;rw[h.2]at this;exact this
theorem MZ{f:α→List UInt8}{M:Nat}:∀{l:List α},(∀x∈l,(f x).length≤M)→(l.flatMap f).length≤l.length*M
 | [],_=>by simp
 | x::l,h=>by
  have h1:=h x aiB
  have h2:=MZ (l:=l) fun y hy=>h y (ajt _ hy)
  rw[ajy,aif,aiO,Nat.succ_mul]; omega
theorem rM{f:α→List UInt8}{M N:Nat}{l:List α}(h:∀x∈l,(f x).length≤M)(hl:l.length≤N):(iG f l).length≤10+N*M:=by
 unfold iG;have h1:=MZ h;have h2:=jk 10 l.length;have h3:=ajL M hl;rw[aif]; omega
theorem O4(s:eG):(lT s).length≤70:=fM _
theorem Nc(s:eY):(kL s).length≤14:=by unfold kL; rw[aif]; have:=fM [s.o]; simp[Px.pb]at this ⊢; omega
theorem O5{pk:Bool}{m:yh}(h:m.l.length≤65536):(zF pk m).length≤327800:=by
 unfold zF;have h1:=fM [m.w,m.h];have h2:=Az m.l;have h3:=MZ (f:=Px.pb) (M:=4) (l:=m.l) fun x _=>ah9 _;have h4:=jk 10 (Px.enc m.l).length;simp only[aiO,ai8]at h1;rw[aif];cases pk
 ·simp only[aj9,if_false]; omega
 simp only[if_true,oL,aif]; omega
theorem Ed{n:Nat}(h:bl n≤256):n<Nb.B^32:=by
 show n<256^32;rw[show(256:Nat)^32=2^256 by rfl];unfold bl at h;split at h
 ·omega
 exact aiG Nat.lt_log2_self (aiV (by decide) h)
theorem q_len{q:Bool×Nat×Nat}(h:dP q≤256):(ql q).length≤100:=by
 unfold dP at h;have h1:=Nb.bf (Ed (n:=q.2.1) (by omega));have h2:=Nb.bf (Ed (n:=q.2.2) (by omega));have h3:=jk 10 (Nb.ak q.2.1).length;have h4:=jk 10 (Nb.ak q.2.2).length;simp only[ql,oL,aiO,aif];omega
theorem O6{q:Q6}(h:q.valid=true):(yg q).length≤600:=by
 unfold Q6.valid at h;simp only[aiq,aiz]at h;obtain⟨h1,h2,h3,h4,h5,h6⟩:=h;have:=q_len h1;have:=q_len h2;have:=q_len h3;have:=q_len h4;have:=q_len h5;have:=q_len h6;simp only[yg,ajy,List.flatMap_nil,aif,ai8];omega
theorem zo{l:List eY}(h:gK l=true):l.length≤16:=by
 unfold gK at h;simp only[aiq,aiz]at h;exact h.2.1
theorem GU{m:cZ}(h:m.valid=true):m.l.length≤65536:=by
 unfold cZ.valid cZ.size at h;simp only[aiq,aiz,aiv]at h;obtain⟨⟨-,-,h1⟩,h2,-⟩:=h;omega
theorem DZ{p:au}{k:Int}(h:p.eq (au.bare k)=true):p.stops=[]∧p.img.l=[]∧p.img.w=0∧p.img.h=0:=by
 unfold au.eq cZ.eq at h;simp only[aiq,aiz,aiv]at h;refine⟨?_,?_,?_,?_⟩
 ·have:p.stops=(au.bare k).stops:=by simp_all
  exact this
 ·have:p.img.l=(au.bare k).img.l:=by simp_all
  exact this
 ·have:p.img.w=(au.bare k).img.w:=by simp_all
  exact this
 have:p.img.h=(au.bare k).img.h:=by simp_all
 exact this
def cZ.num(m:cZ):Prop:=(m.l.length:Int)=m.w*m.h∧m.l.length≤65536∧0≤m.w∧m.w≤4096∧0≤m.h∧m.h≤4096
theorem xH{m:cZ}(h:m.valid=true):m.num:=by
 have hl:=GU h;unfold cZ.valid cZ.size side at h;simp only[aiq,aiv,aiz]at h;exact⟨h.2.1,hl,by omega,by omega,by omega,by omega⟩
theorem tK{m:cZ}(h1:m.l=[])(h2:m.w=0)(h3:m.h=0):m.num:=by
 unfold cZ.num; rw[h1,h2,h3]; simp
theorem uh{p:au}(h:p.valid=true):p.t.q.valid=true∧p.stops.length≤16∧p.img.num:=by
 unfold au.valid at h;simp only[cond_eq_ite]at h;split at h
 ·cases h
 rename_i hw;simp only[ajX,ajz,not_or,Bool.not_eq_false]at hw;refine⟨hw.1,?_⟩;have he:=DZ hw.2;unfold au.without at he;simp only[cond_eq_ite]at he;split at h
 ·rename_i h1; rw[aib h1]at he; exact⟨by rw[show p.stops=[]from he.1]; simp,tK he.2.1 he.2.2.1 he.2.2.2⟩
 rename_i h1;rw[ah7 h1]at he;split at h
 ·rename_i h2;rw[aib h2]at he;split at h
  ·cases h
  rename_i hs;simp only[ajX,ajz,not_or,Bool.not_eq_false,aiq]at hs;exact⟨zo hs.2.1,tK he.2.1 he.2.2.1 he.2.2.2⟩
 rename_i h2;rw[ah7 h2]at he;split at h
 ·rename_i h3;rw[aib h3]at he;split at h
  ·cases h
  rename_i hs;simp only[ajX,ajz,not_or,Bool.not_eq_false,aiq]at hs;exact⟨zo hs.2.1,tK he.2.1 he.2.2.1 he.2.2.2⟩
 rename_i h3;rw[ah7 h3]at he;split at h
 ·rename_i h4;rw[aib h4]at he;split at h
  ·cases h
  rename_i hs;simp only[ajX,ajz,not_or,Bool.not_eq_false,aiq]at hs;exact⟨by rw[show p.stops=[]from he.1]; simp,xH hs.1.1⟩
 cases h
theorem EN{pk:Bool}{p:au}(h:p.valid=true):(gq pk p.key).length≤330000:=by
 obtain⟨h1,h2,h3⟩:=uh h;have a1:=O6 (q:=p.key.q) h1;have a2:=O5 (pk:=pk) (m:=p.key.img) h3.2.1;have a3:=rM (f:=kL) (l:=p.key.stops) (M:=14) (N:=16) (fun x _=>Nc x) h2;have a4:=fM [p.key.kind];have a5:=fM [p.key.p0.x,p.key.p0.y,p.key.p1.x,p.key.p1.y,p.key.bF];have a6:=fM [p.key.spread];have a7:=fM [p.key.bQ];simp only[aiO,ai8]at a4 a5 a6 a7;simp only[gq,aif,Px.pb,aiO,ai8];omega
structure aA.Lim (n:aA):Prop where
 q:n.t.q.valid=true
 clip:n.clip.length≤256
 shape:n.kind=2→n.path.length≤256∧n.fill.length≤1∧n.stroke.length≤1∧(∀p∈n.fill,p.valid=true)∧(∀p∈n.stroke,p.valid=true)∧(0<n.stroke.length→n.style.dash.length≤16)
 img:n.kind=3→n.img.num
 bare:n.bare=true
 sty:n.kind=2→¬0<n.stroke.length→n.style.eq aZ.bare=true
theorem CP{l:List eG}(h:iV l=true):l.length≤256:=by
 unfold iV eP at h;by_cases h1:256<(l.length:Int)
 ·rw[aib h1]at h; simp at h
 omega
theorem Nh{l:List (Bool×Int)}(h:badL l=false):∀p∈l,p.1=false:=fun p hp=>by
 unfold badL at h;cases hb:p.1
 ·rfl
 have:=List.any_eq_false.1 h p hp; simp[hb]at this
theorem sD{n:aA}(h:n.checkN=0):n.Lim:=by
 obtain⟨hb,ho⟩:=y7 h;have hc:=Nh hb;unfold aA.jo at hc;simp only[aip,ajG,or_false,forall_eq_or_imp,forall_eq,ajn]at hc;obtain⟨-,-,h3,-,h5,h6⟩:=hc;simp only[aiX,ajn]at h6;refine⟨h3,CP h5,fun hk=>?_,fun hk=>?_,h6.2,fun hk hs0=>?_⟩
 ·unfold aA.mF at ho;rw[hk]at ho;simp only[show((2:Int)==1)=false from rfl,show((2:Int)==2)=true from rfl,cond_false,cond_true]at ho;have hs:=oq (fun p hp=>by
   simp only[aA.pU,aip,ajG,or_false]at hp;rcases hp with rfl | rfl | rfl | rfl | rfl | rfl<;>simp) ho
  unfold aA.pU at hs;simp only[aip,ajG,or_false,forall_eq_or_imp,forall_eq,ajn,aiX,Bool.and_eq_false_iff,aji,aiz]at hs;obtain⟨g1,-,g3,g4,-,g6⟩:=hs;refine⟨CP g1,by omega,by omega,aiA.1 g6.1,aiA.1 g6.2,fun hl=>?_⟩;rcases g4 with g4 | g4
  ·omega
  unfold aZ.valid qW at g4;simp only[aiq,aiz]at g4;omega
 ·unfold aA.mF at ho;rw[hk]at ho;simp only[show((3:Int)==1)=false from rfl,show((3:Int)==2)=false from rfl,cond_false]at ho;have hs:=oq (fun p hp=>by
   simp only[aip,ajG,or_false]at hp;rcases hp with rfl | rfl<;>simp) ho
  simp only[aip,ajG,or_false,forall_eq_or_imp,forall_eq,ajn]at hs;exact xH hs.1
 unfold aA.mF at ho;rw[hk]at ho;simp only[show((2:Int)==1)=false from rfl,show((2:Int)==2)=true from rfl,cond_false,cond_true]at ho;have hs:=oq (fun p hp=>by
  simp only[aA.pU,aip,ajG,or_false]at hp;rcases hp with rfl | rfl | rfl | rfl | rfl | rfl<;>simp) ho
 unfold aA.pU at hs;simp only[aip,ajG,or_false,forall_eq_or_imp,forall_eq,ajn,aiX,Bool.and_eq_false_iff,aji,aiz]at hs;obtain⟨-,-,-,-,g5,-⟩:=hs;rcases g5 with g5 | g5
 ·omega
 exact g5
theorem JR{pk:Bool}{n:aA}(h:n.Lim):(fH pk n.key).length≤700000:=by
 have a1:=O6 (q:=n.key.q) h.q;have a2:=rM (f:=lT) (l:=n.key.clip) (M:=70) (N:=256) (fun x _=>O4 x) h.clip;have a3:=fM [n.key.id,n.key.kind,n.key.depth];have a4:=fM [n.key.aO];have hk:(oV pk n.key).length≤680000:=by
  unfold oV;split
  ·have:=fM [n.key.blend]; simp at this ⊢; omega
  split
  ·rename_i hk;obtain⟨b1,b2,b3,b4,b5,b6⟩:=h.shape hk;have c1:=rM (f:=lT) (l:=n.key.path) (M:=70) (N:=256) (fun x _=>O4 x) b1;have c2:=rM (f:=gq pk) (l:=n.key.fill) (M:=330000) (N:=1) (fun x hx=>by obtain⟨p,hp,rfl⟩:=aiR.1 hx; exact EN (b4 p hp)) (by simpa[aA.key]using b2);have c3:=rM (f:=gq pk) (l:=n.key.stroke) (M:=330000) (N:=1) (fun x hx=>by obtain⟨p,hp,rfl⟩:=aiR.1 hx; exact EN (b5 p hp)) (by simpa[aA.key]using b3);have c4:=fM [n.key.aV];have c5:(if 0<n.key.stroke.length then FB n.key.style else []).length≤300:=by
    split
    ·rename_i hs;have d1:=rM (f:=iB) (l:=n.key.style.dash) (M:=10) (N:=16) (fun x _=>jk 10 _) (b6 (by simpa[aA.key]using hs));have d2:=fM [n.key.style.width,n.key.style.join,n.key.style.cap,n.key.style.dZ,n.key.style.phase];simp only[FB,aif,aiO,ai8]at d2 ⊢; omega
    simp
   simp only[aif,aiO,ai8]at c4 ⊢; omega
  split
  ·rename_i hk;have:=O5 (pk:=pk) (m:=n.key.img) (h.img hk).2.1;have:=fM [n.key.bQ];simp only[aif,aiO,ai8]at this ⊢; omega
  simp
 simp only[fH,aif,aiO,ai8]at a3 a4 ⊢;omega
theorem aA.Lim.ad5{n:aA}(h:n.Lim):(n.kind=3→n.img.l.length≤1000000)∧(n.kind=2→(∀p∈n.fill,p.img.l.length≤1000000)∧∀p∈n.stroke,p.img.l.length≤1000000):=
 ⟨fun hk=>by have:=(h.img hk).2; omega,fun hk=>⟨fun p hp=>by have:=(uh ((h.shape hk).2.2.2.1 p hp)).2.2.2.1; omega,fun p hp=>by have:=(uh ((h.shape hk).2.2.2.2.1 p hp)).2.2.2.1; omega⟩⟩
theorem qL{s:bC}(h:s.key.valid=true):s.ns.length≤64∧∀n∈s.ns,n.Lim:=by
 obtain⟨-,h1,h2⟩:=iO.Eh.1 h;refine⟨by simpa[bC.key]using h1,fun n hn=>sD ?_⟩;rw[←uj];exact(Ug.1 h2).1 _ (aiR.2 ⟨n,hn,rfl⟩)
theorem yK{s:bC}(h:s.key.valid=true):(jD s.key).length≤50000000:=by
 obtain⟨h1,h2⟩:=qL h;have a1:=rM (f:=fH false) (l:=s.key.ns) (M:=700000) (N:=64) (fun x hx=>by obtain⟨n,hn,rfl⟩:=aiR.1 hx; exact JR (h2 n hn)) (by simpa[bC.key]using h1);have a2:=fM [s.key.w,s.key.h];simp only[jD,aif,aiO,ai8,Px.pb]at a2 ⊢;omega
end
section
set_option maxHeartbeats 1600000
set_option maxRecDepth 100000
open Go.RowKit
variable{α:Type}{K:Nat}
theorem JU{w0 w:World}{v0 u0:Value}{B:List UInt8}{L:List aA}(hE:Ext w0 w)(ho:OwnB w0.heap.size w v0 B)(h:aN 47 aA.cells w0 u0 L)(hok:∀n∈L,eF K w0 n∧n.Lim)(hB0:(B++L.flatMap (fun n:aA=>fH false n.key)).length≤1000000000) :
  Calls prog 78 #[v0,u0,.func (.func 36) #[.agg #[.z]] #[]] w fun e w'=>∃v,e = .returned v∧OwnB w0.heap.size w' v (B++L.flatMap (fun n:aA=>fH false n.key))∧Ext w0 w':=by
 obtain⟨a,cap,rfl⟩:=h.shape;have hmax:L.length≤9223372036854775807:=h.len;refine Sx.vN func78 ntmps78 hE fun ac S=>ahK (fun _ aY=>?_);have R:=jZ (ai2 S) ho (fun p hp=>by cases hp) (ah9 _);refine adr S 1 [] [(6,.sn)] fun S=>ahJ<|aY _ _<|ah2 fun _ fA=>ahK fun _ jw=>adr S 3 [] [(9,.slice a L.length cap),(10,.i L.length),(11,.i 0)] fun S=>ahJ<|jw _ _<|ah5 ?_;refine aiM (ι:=Nat×Value) (fun p a' w'=>p.1≤L.length∧(True)∧Sx.Rw w0 w' [] [⟨5,1,p.2,(B++(L.take p.1).flatMap (fun n:aA=>fH false n.key)).length,(B++(L.take p.1).flatMap (fun n:aA=>fH false n.key)).map dQ⟩]∧Sx.St w0 a' w' 22 [(0,p.2),(1,.slice a L.length cap),(2,.func (.func 36) #[.agg #[.z]] #[]),(6,.sn),(9,.slice a L.length cap),(10,.i L.length),(11,.i p.1)] [] []) (fun p=>L.length-p.1) (0,v0) ⟨aij _,trivial,R.as (show [Sx.bR v0 B]=[Sx.bR v0 (B++(L.take 0).flatMap (fun n:aA=>fH false n.key))] by simp),S.sn⟩ ?_;rintro⟨k,v⟩ ac u hI;try dsimp only at hI
 obtain⟨hk,hR,R,S⟩:=hI;refine ahK fun _ nT=>adr S 1 [] [(12,.bool ((k:Int)<(L.length:Int)))] fun S=>ahJ<|nT _ _<|ah2 (fun _ dw=>?_);refine ahN S (fun hc6=>?_) (fun hc6=>?_)
 ·refine ah4<|dw _ _<|ah2 fun _ iL=>ah5<|ahK (fun _ dR=>?_);have fJ:k<L.length:=by have:=ain hc6; omega
  obtain⟨b9,o10,rfl,x15,jg,hb16,qM⟩:=aiy h (fun _=>rfl) (k) fJ;have S:=S.view0 hb16 qM;refine adr S 2 [.idx k L.length,.mem 0 0] [(14,x15.v)] (hk:=⟨fJ,trivial⟩) fun S=>ahL S 8 (Sx.L [.i 0,.i 0,.i 0]++Sx.za++Sx.L [.sn,.i 0,.u 0,.i 0,.z,.z,.sn,.i 0,.sn,.i 0,.i 0,.i 0,.i 0,.sn,.i 0,.sn,.i 0,.i 0,.sn,.i 0]) fun ac u b17 tZ AL S=>ahP S 0 (off:=0) (cs:=x15.cells) rfl fun u KA S=>ahJ<|dR _ _<|aia<|adr S 3 [.mem 0 0] [(15,v),(16,.func (.func 36) #[.agg #[.z]] #[]),(17,x15.v)] fun S=>ahQ S (some 18) (CO (pk:=false) ((hok _ (jg▸aiD fJ)).1.below S.E) (hok _ (jg▸aiD fJ)).2.ad5 (N9 hB0 _ (jg▸aiD fJ))) ?_;rintro e u ⟨v18,rfl,vO,sF⟩;refine⟨_,rfl,sF,fun ac S=>?_⟩;have hB:=AO hB0 (k+1);rw[←jv fJ jg]at hB;obtain⟨R,Y22⟩:=R.bZ S (aiF (ajf tZ AL) (aiF (Sx.Stp.chm KA (by simp[Sx.vb])) (ait sF)));refine ahZ S R 19 ((fun n:aA=>fH false n.key) x15) (jh (vO)) (by simp only[aif]at hB ⊢; omega) fun ac u v23 N7 R S=>adr S 1 [] [(0,v23)] fun S=>ahJ<|iL _ _<|aia<|adr S 2 [.re 20 (.i (IntKind.i64.wrap ((k:Int)+1))) (.i (k+1:Nat))] [(11,.i (k+1:Nat))] (hk:=⟨ahY (by omega),trivial⟩) fun S=>ahJ ?_;have S:=S.jE 1;obtain⟨R,Y25⟩:=R.bZ S (ai7 1);show ∃i',_∧_;exact⟨((k+1),v23),⟨by omega,trivial,R.as (show [Sx.bR v23 (B++(L.take k).flatMap (fun n:aA=>fH false n.key)++(fun n:aA=>fH false n.key) x15)]=[Sx.bR v23 (B++(L.take (k+1)).flatMap (fun n:aA=>fH false n.key))] by rw[jv fJ jg]),S.sn⟩,by show _-_<_-_; omega⟩
 refine ail<|fA _ _<|ahK fun _ jA=>adr S 2 [] [(6,v)] fun S=>ahJ<|jA _ _<|ahM S results78 ?_;exact⟨_,rfl,by have:=R.own _ aiB; rw[aiC (by have:=aiu hc6; omega)]at this; exact this,S.E⟩
theorem JV{w:World}{u0:Value}{L:List aA}(h:aN 47 aA.cells w u0 L)(hok:∀n∈L,eF K w n∧n.Lim)(hB:(iG (fun n:aA=>fH false n.key) L).length≤1000000000) :
  Calls prog 35 #[u0,.func (.func 36) #[.agg #[.z]] #[]] w fun e w'=>∃v,e = .returned v∧OwnB w.heap.size w' v (iG (fun n:aA=>fH false n.key) L)∧Ext w w':=by
 obtain⟨a,cap,rfl⟩:=h.shape;have hmax:L.length≤9223372036854775807:=h.len;refine ahO func35 ntmps35 fun ac S=>ahK fun _ aY=>adr S 1 [] [(4,.sn)] fun S=>ahJ<|aY _ _<|ahK fun _ fA=>adr S 3 [.re 7 (.int .u64 (IntKind.u64.wrap (L.length:Int))) (.int .u64 (L.length:Int))] [(7,.int .u64 (L.length:Int))] (fun S=>?_) (hk:=⟨(wrap_u64 (by omega)),trivial⟩);have S0:=S.E.size;refine ahQ S (some 8) (eH L.length _ (by omega)) ?_;rintro e u ⟨v8,rfl,Uh,E3⟩;refine⟨_,rfl,E3,fun ac S=>?_⟩;refine adr S 2 [] [(9,.slice a L.length cap),(10,.func (.func 36) #[.agg #[.z]] #[])] fun S=>Sx.Ei S (some 11) (JU S.E (aQ Uh S0) h hok hB) ?_;rintro e u ⟨v11,rfl,FD,FH⟩;refine⟨_,rfl,FH,fun ac S=>?_⟩;refine adr S 1 [] [(4,v11)] fun S=>ahJ<|fA _ _<|ahM S results35 ?_;exact⟨_,rfl,FD,S.E⟩
theorem sK{w:World}{n:aA}(h:eF K w n)(hg:bW w) :
  Calls prog 16 #[n.v] w fun e w'=>∃v,e = .returned v∧OwnB w.heap.size w' v (if n.checkN=0 then fH false n.key else [])∧Ext w w':=by
 skip;refine ahO func16 ntmps16 fun ac S=>ahK fun _ aY=>ahL S 1 n.cells fun ac u b2 E3 hb4 S=>adr S 1 [] [(2,.sn)] fun S=>ahJ<|aY _ _<|ah2 fun _ dw=>ahK fun _ iT=>adr S 1 [.mem 0 0] [(3,n.v)] fun S=>ahS S 4 (iF (h.below S.E) (hg.below S.E)) fun ac u E7 S=>adr S 1 [] [(5,.bool (!(n.checkN==0)))] fun S=>ahJ (iT _ _ ?_);refine ahN S (fun hc8=>?_) (fun hc8=>?_)
 ·refine ahK fun _ iD=>adr S 1 [] [(2,.sn)] fun S=>ahJ<|iD _ _<|aii ?_;have hv:¬n.checkN=0:=by have:=hc8; simpa using this
  refine ahU S results16 ?_;exact⟨_,rfl,by rw[ah7 hv]; exact akc _ _ _ _,S.E⟩
 refine ah4<|dw _ _<|ahK fun _ gu=>adr S 2 [.mem 0 0] [(6,.agg #[.z]),(7,n.v)] (fun S=>?_);have hv:n.checkN=0:=by have:=hc8; simpa using this
 have S0:=S.E.size;refine ahQ S (some 8) (CO (pk:=false) (h.below S.E) (sD hv).ad5 (by have:=JR (pk:=false) (sD hv); omega)) ?_;rintro e u ⟨v9,rfl,ho9,wL⟩;refine⟨_,rfl,wL,fun ac S=>?_⟩;refine adr S 1 [] [(2,v9)] fun S=>ahJ<|gu _ _<|ahM S results16 ?_;exact⟨_,rfl,by rw[aib hv]; exact aQ (ho9) S0,S.E⟩
def II(base:Nat)(w:World)(s:iO)(v:Value)(er:Int):Prop:=(s.valid=true∧OwnB base w v (dL.app (jD s))∧er=0)∨(s.valid=false∧v = .sn∧er=18)
theorem mM{w:World}{s:bC}(h:gQ K w s)(hg:bW w) :
  Calls prog 12 #[s.v] w fun e w'=>∃v er,e = .returned (.tuple #[v,.i er])∧II w.heap.size w' s.key v er∧Ext w w':=by
 skip;refine ahO func12 ntmps12 fun ac S=>ahK fun _ aY=>ahL S 1 s.cells fun ac u b2 E3 hb4 S=>adr S 2 [] [(2,.sn),(3,.i 0)] fun S=>ahJ<|aY _ _<|ah2 fun _ dw=>ahK fun _ iT=>adr S 1 [.mem 0 0] [(5,s.v)] fun S=>ahS S 6 (y9 (h.below S.E) (bW.below hg S.E)) fun ac u E7 S=>adr S 1 [] [(7,.bool (!s.key.valid))] fun S=>ahJ (iT _ _ ?_);refine ahN S (fun hc8=>?_) (fun hc8=>?_)
 ·refine ahK fun _ iD=>adr S 2 [] [(2,.sn),(3,.i 18)] fun S=>ahJ<|iD _ _<|aii ?_;have hv:s.key.valid=false:=by have:=hc8; simpa using this
  refine Sx.xq S results12 ?_;exact⟨_,_,rfl,.inr ⟨hv,rfl,rfl⟩,S.E⟩
 refine ah4<|dw _ _<|ahK (fun _ gu=>?_);have hv:s.key.valid=true:=by have:=hc8; simpa using this
 have hB:([71,83,49]++dH [s.w,s.h]++Px.pb s.bg++iG (fH false) (s.ns.map aA.key)).length≤1000000000:=by have:=yK hv; exact aiQ this (by decide)
 rw[GR]at hB;have R:=ai2 S;refine Sx.lit S 8 9 3 [.u 71,.u 83,.u 49] 49 5 underlying49 underlying5 fun{ac u b13} wL qM S=>adr S 4 [.mem 0 0,.mem 0 1] [(11,.i s.w),(13,.i s.h)] fun S=>ah6 S 14 2 [.i s.w,.i s.h] (fun ac u b14 FX hb16 S=>?_);have S0:=S.E.size;refine ahQ S (some 15) (fK (L:=[s.w,s.h]) (Sx.iW (f:=fun x:Int => .i x) [s.w,s.h] (S.bx 0) (by simp[maxLen])) (pW.all (L:=[s.w,s.h]) ⟨h.1,h.2.1,trivial⟩) (by simp)) ?_;rintro e u ⟨v17,rfl,vO,Dz⟩;refine⟨_,rfl,Dz,fun ac S=>?_⟩;have hvn:0<(dH [s.w,s.h]).length:=by unfold dH; rw[ajy,aif]; have h1:0<(En.fE 10 (En.zig s.w)).length:=En.xu 9 _; omega
 have hB3:=hB;simp only[aif]at hB3;obtain⟨R,Y20⟩:=R.bZ S (aiF (ait wL) (aiF (ajf FX hb16) (ait Dz)));refine Sx.YN S R 16 pY ((dS.below qM (Ext.trans' FX Dz))) (jh (vO)) (by omega) (by omega) (by simp[maxLen]<;>omega) (by omega) (fun ac u v21 TK X23 R S=>?_);have R:=R.as (show [(⟨5,1,v21,3+(dH [s.w,s.h]).length,[.u 71,.u 83,.u 49]++(dH [s.w,s.h]).map dQ⟩:Sx.Row)]=[Sx.bR v21 ([71,83,49]++dH [s.w,s.h])] by unfold Sx.bR; rw[aif,aiZ]; rfl);refine adr S 1 [] [(4,v21)] fun S=>ahJ<|gu _ _<|ahK fun _ rX=>adr S 3 [.mem 1 2] [(17,v21),(19,.agg s.bg.cells.toArray)] fun S=>ahQ S (some 20) (qO (p:=s.bg)) ?_;rintro e u ⟨v20,rfl,abX,LC⟩;refine⟨_,rfl,LC,fun ac S=>?_⟩;obtain⟨R,Y26⟩:=R.bZ S (ait LC);refine ahZ S R 21 (Px.pb s.bg) (jh (abX)) (by simp only[aif]at hB ⊢; omega) fun ac u v27 X28 R S=>adr S 1 [] [(4,v27)] fun S=>ahJ<|rX _ _<|ahK fun _ uJ=>adr S 5 [.mem 1 6] [(22,v27),(24,s.s),(26,.func (.func 36) #[.agg #[.z]] #[])] fun S=>ahQ S (some 27) (JV (h.2.2.1.below S.E) (fun n hn=>⟨(h.2.2.2 n hn).below S.E,(qL hv).2 n hn⟩) (by simp only[aif]at hB; omega)) ?_;rintro e u ⟨v27,rfl,abY,E30⟩;refine⟨_,rfl,E30,fun ac S=>?_⟩;obtain⟨R,Y31⟩:=R.bZ S (ait E30);refine ahZ S R 28 (iG (fun n:aA=>fH false n.key) s.ns) (jh (abY)) (by simp only[aif]at hB ⊢; omega) fun ac u v32 X33 R S=>adr S 1 [] [(4,v32)] fun S=>ahJ<|uJ _ _<|ahK fun _ qE=>adr S 1 [] [(29,v32)] (fun S=>?_);have hout:OwnB w.heap.size u v32 (jD s.key):=yJ (R.own _ aiB) (by rw[←GR]; rfl);have S0:=S.E.size;refine ahQ S (some 30) (tJ _ (jD s.key) _ (pX hout) (by have:=yK hv; omega)) ?_;rintro e u ⟨v30,rfl,Wy,Ky⟩;refine⟨_,rfl,Ky,fun ac S=>?_⟩;refine adr S 2 [] [(2,v30),(3,.i 0)] fun S=>ahJ<|qE _ _<|Sx.rt2 S results12 ?_;exact⟨_,_,rfl,.inl ⟨hv,aQ (Wy) S0,rfl⟩,S.E⟩
end
end Go.Proofs.YtapmgonflgahbaaGreatDoor
