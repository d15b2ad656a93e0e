/- The key of a node: its content with numbers in lowest -/
import Derived.Test.YtodpgjjgaddkeaaGreatDoorE36b
import Derived.Maps.Own
import Derived.Maps.Views
set_option linter.unusedVariables false
set_option linter.unusedSimpArgs false
namespace Go.Proofs.YtodpgjjgaddkeaaGreatDoor
section
variable{K:Nat}
instance avp:DecidableEq Q6:=fun P Q=>decidable_of_iff (P.a=Q.a∧P.b=Q.b∧P.c=Q.c∧P.d=Q.d∧P.e=Q.e∧P.f=Q.f) (by
 obtain⟨a,b,c,d,e,f⟩:=P;obtain⟨a',b',c',d',e',f'⟩:=Q;simp)
structure nY where
 w:Int
 h:Int
 l:List bG
deriving DecidableEq
structure jd where
 kind:Int
 color:bG
 p0:jS
 p1:jS
 bQ:Int
 stops:List dG
 spread:Int
 img:nY
 cZ:Int
 q:Q6
deriving DecidableEq
structure ku where
 width:Int
 join:Int
 cap:Int
 eX:Int
 dash:List Int
 phase:Int
deriving DecidableEq
structure aQ where
 id:Int
 kind:Int
 depth:Int
 q:Q6
 clip:List dL
 aP:Int
 dQ:UInt8
 blend:Int
 isolated:Bool
 dD:Bool
 path:List dL
 aT:Int
 fill:List jd
 style:ku
 stroke:List jd
 img:nY
 cZ:Int
deriving DecidableEq
def dA.key(m:dA):nY:=⟨m.w,m.h,m.l⟩
def ak.key(p:ak):jd:=⟨p.kind,p.color,p.p0,p.p1,p.bQ,p.stops,p.spread,p.img.key,p.cZ,p.t.q⟩
def aS.key(p:aS):ku:=⟨p.width,p.join,p.cap,p.eX,p.dash,p.phase⟩
def aj.key(n:aj):aQ:=⟨n.id,n.kind,n.depth,n.t.q,n.clip,n.aP,n.dQ,n.blend,n.isolated,n.dD,n.path,n.aT,n.fill.map ak.key,n.style.key,n.stroke.map ak.key,n.img.key,n.cZ⟩
theorem CU{a b:UInt8}:(a.toNat:Int)=(b.toNat:Int)↔a=b:=⟨FN,fun h=>by rw[h]⟩
theorem Yh{a b:bG}:(a.r=b.r∧a.g=b.g∧a.b=b.b∧a.a=b.a)↔a=b:=by cases a; cases b; simp
theorem ajU{a b:jS}:(a.x=b.x∧a.y=b.y)↔a=b:=by cases a; cases b; simp
theorem N9(m n:dA):m.eq n=decide (m.key=n.key):=by
 rw[aAM]; simp[dA.eq,dA.key]
theorem Yi(p q:aS):p.eq q=decide (p.key=q.key):=by
 rw[aAM]; simp only[aS.eq,aS.key,ku.mk.injEq,azM,azI,azK,and_assoc];constructor
 ·rintro⟨h1,h2,h3,h4,h5,h6⟩; exact⟨h1,h2,h3,h4,h6,h5⟩
 rintro⟨h1,h2,h3,h4,h5,h6⟩; exact⟨h1,h2,h3,h4,h6,h5⟩
theorem Yj(P Q:Q6):P.same Q=decide (P=Q):=by
 obtain⟨a,b,c,d,e,f⟩:=P;obtain⟨a',b',c',d',e',f'⟩:=Q;rw[aAM]; simp[Q6.same]
theorem ah6{P Q:Q6}(hp:Am P)(hq:Am Q):P.eq Q=decide (P=Q):=by rw[←Q6.same_eq hp hq,Yj]
theorem ak.ajV{p q:ak}(hp:Am p.t.q)(hq:Am q.t.q):p.eq q=decide (p.key=q.key):=by
 rw[aAM];unfold ak.eq;rw[ah6 hp hq,N9];simp only[azM,azI,azK,CU,Yh,ajU,ak.key,jd.mk.injEq,and_assoc];constructor
 ·rintro⟨h1,h2,h3,h4,h5,h6,h7,h8,h9,h10⟩; exact⟨h1,h2,h3,h4,h5,h8,h6,h9,h7,h10⟩
 rintro⟨h1,h2,h3,h4,h5,h6,h7,h8,h9,h10⟩; exact⟨h1,h2,h3,h4,h5,h7,h9,h6,h8,h10⟩
def agy(l:List ak):Prop:=∀p∈l,Am p.t.q
theorem nK:∀{l m:List ak},agy l→agy m→bT l m=decide (l.map ak.key=m.map ak.key)
 | [],[],_,_=>by simp[bT]
 | [],y::m,_,_=>by simp[bT]
 | x::l,[],_,_=>by simp[bT]
 | x::l,y::m,hl,hm=>by
  have ih:=nK (l:=l) (m:=m) (fun p hp=>hl p (aAI _ hp)) (fun p hp=>hm p (aAI _ hp))
  have e:=ak.ajV (hl x azJ) (hm y azJ)
  rw[aAM]at ih e ⊢
  simp only[bT,aAb,Nat.add_right_cancel_iff,List.zip_cons_cons,List.all_cons,aAi,az3,azM,azK]at ih e ⊢
  rw[e,←ih]
  constructor
  ·rintro⟨h1,h2,h3⟩; exact⟨h2,h1,h3⟩
  ·rintro⟨h1,h2,h3⟩; exact⟨h2,h1,h3⟩
def aj.nrm(n:aj):Prop:=Am n.t.q∧agy n.fill∧agy n.stroke
theorem eu.nrm{w:World}{n:aj}(h:eu K w n):n.nrm:=
 ⟨(bF.toQ h.1.2.2.2.1 h.2.1).nrm,fun p hp=>(bF.toQ (h.1.2.2.2.2.2.2.2.2.2.1.2 p hp).2.2.2.2.2.2.2.2.2 (h.2.2.1 p hp)).nrm,fun p hp=>(bF.toQ (h.1.2.2.2.2.2.2.2.2.2.2.2.1.2 p hp).2.2.2.2.2.2.2.2.2 (h.2.2.2.1 p hp)).nrm⟩
theorem Rl{a b:Bool}:cond a false b=(!a&&b):=by cases a<;>rfl
theorem agz{a b:aj}(ha:a.nrm)(hb:b.nrm):a.eqP b=decide (a.key=b.key):=by
 rw[aAM];unfold aj.eqP;rw[ah6 ha.1 hb.1,nK ha.2.1 hb.2.1,nK ha.2.2 hb.2.2,N9,Yi];simp only[Rl,azM,aA6,aAm,bne_eq_false_iff_eq,aAT,azI,azK,CU,aj.key,aQ.mk.injEq,and_assoc];constructor
 ·rintro⟨h1,h2,h3,h4,h5,h6,h7,h8,h9,h10,h11,h12,h13,JV,h15,h16,h17⟩; exact⟨h1,h2,h3,h11,h12,h4,h5,h6,h7,h8,h13,h9,JV,h16,h15,h17,h10⟩
 rintro⟨h1,h2,h3,h11,h12,h4,h5,h6,h7,h8,h13,h9,JV,h16,h15,h17,h10⟩; exact⟨h1,h2,h3,h4,h5,h6,h7,h8,h9,h10,h11,h12,h13,JV,h15,h16,h17⟩
theorem agA{a b:aj}(ha:a.nrm)(hb:b.nrm):a.eqR b=decide (a.key=b.key):=by
 rw[aAM];unfold aj.eqR;rw[Yj,nK ha.2.1 hb.2.1,nK ha.2.2 hb.2.2,N9,Yi];simp only[Rl,azM,aA6,aAm,bne_eq_false_iff_eq,aAT,azI,azK,CU,aj.key,aQ.mk.injEq,and_assoc];constructor
 ·rintro⟨h1,h2,h3,h11,h4,h9,h10,h5,h6,h7,h8,h12,h13,JV,h15,h16,h17⟩; exact⟨h1,h2,h3,h11,h12,h4,h5,h6,h7,h8,h13,h9,JV,h16,h15,h17,h10⟩
 rintro⟨h1,h2,h3,h11,h12,h4,h5,h6,h7,h8,h13,h9,JV,h16,h15,h17,h10⟩; exact⟨h1,h2,h3,h11,h4,h9,h10,h5,h6,h7,h8,h12,h13,JV,h15,h16,h17⟩
end
section
theorem aat{p q:ak}(h:p.key=q.key):p.valid=q.valid:=by
 obtain⟨k,c,p0,p1,r,sva,svc,st,sp,⟨iw,ih,isa,isc,il⟩,sm,t⟩:=p;obtain⟨k',c',p0',p1',r',aqM,aqN,st',sp',⟨iw',ih',aqO,aqP,il'⟩,sm',t'⟩:=q;simp only[ak.key,dA.key,jd.mk.injEq,nY.mk.injEq]at h;obtain⟨rfl,rfl,rfl,rfl,rfl,rfl,rfl,⟨rfl,rfl,rfl⟩,rfl,ht⟩:=h;have hw:∀(b:ak),(ak.without ⟨k,c,p0,p1,r,sva,svc,st,sp,⟨iw,ih,isa,isc,il⟩,sm,t⟩).eq b=(ak.without ⟨k,c,p0,p1,r,aqM,aqN,st,sp,⟨iw,ih,aqO,aqP,il⟩,sm,t'⟩).eq b:=by
  intro b;unfold ak.without;simp only;cases k==1<;>cases k==2<;>cases k==3<;>cases k==4<;>simp only[cond_true,cond_false,ak.ac6,ak.only2,ak.ac7,ak.ac8,ak.ac9,ak.eq]<;>rfl
 unfold ak.valid;simp only[hw,ht];rfl
theorem zI:∀{l m:List ak},l.map ak.key=m.map ak.key→l.all ak.valid=m.all ak.valid
 | [],[],_=>rfl
 | [],_::_,h=>by cases h
 | _::_,[],h=>by cases h
 | x::l,y::m,h=>by
  simp only[aAi,az3]at h
  rw[List.all_cons,List.all_cons,aat h.1,zI h.2]
theorem VJ{a b:aj}(h:a.key=b.key):a.checkN=b.checkN:=by
 simp only[aj.key,aS.key,dA.key,aQ.mk.injEq,ku.mk.injEq,nY.mk.injEq]at h;obtain⟨h1,h2,h3,h4,h5,h6,h7,h8,h9,h10,h11,h12,h13,⟨s1,s2,s3,s4,s5,s6⟩,h15,⟨i1,i2,i3⟩,h17⟩:=h;have l1:a.fill.length=b.fill.length:=by have:=azH List.length h13; simpa using this
 have l2:a.stroke.length=b.stroke.length:=by have:=azH List.length h15; simpa using this
 have hs:∀p:aS,a.style.eq p=b.style.eq p:=fun p=>by unfold aS.eq; rw[s1,s2,s3,s4,s5,s6]
 have hi:∀m:dA,a.img.eq m=b.img.eq m:=fun m=>by unfold dA.eq; rw[i1,i2,i3]
 have hb:a.bare=b.bare:=by unfold aj.bare; rw[hs,hi,h2,h7,h8,h9,h10,h11,h12,h17,l1,l2]
 have hsv:a.style.valid=b.style.valid:=by unfold aS.valid; rw[s1,s2,s3,s4,s5,s6]
 have hiv:a.img.valid=b.img.valid:=by unfold dA.valid dA.size; rw[i1,i2,i3]
 have hc:a.jP=b.jP:=by unfold aj.jP; rw[hb,h1,h2,h3,h4,h5,h6]
 have hsh:a.rQ=b.rQ:=by unfold aj.rQ; rw[h11,h12,l1,l2,hsv,hs,zI h13,zI h15]
 unfold aj.checkN aj.qH;rw[hc,hsh,h2,h8,hiv,h17]
open Classical in
noncomputable def aQ.chk(κ:aQ):Int:=if h:∃n:aj,n.key=κ then h.choose.checkN else 1
theorem lq(n:aj):n.key.chk=n.checkN:=by
 have h:∃m:aj,m.key=n.key:=⟨n,rfl⟩;unfold aQ.chk;rw[dif_pos h];exact VJ h.choose_spec
theorem qp:∀{l:List (Bool×Int)},(∀p∈l,p.2≠0)→mQ l=0→∀p∈l,p.1=false
 | [],_,_,p,hp=>by cases hp
 | q::l,h,h0,p,hp=>by
  unfold mQ at h0
  split at h0
  ·exact absurd h0 (h q azJ)
  ·rename_i hq
   rcases azG.1 hp with rfl | hp
   ·simpa using hq
   ·exact qp (fun p hp=>h p (aAI _ hp)) h0 p hp
theorem JW(n:aj):∀p∈n.jP,p.2≠0:=by
 intro p hp;simp only[aj.jP,azG,aBu,or_false]at hp;rcases hp with rfl | rfl | rfl | rfl | rfl | rfl
 ·exact(by decide:(2:Int)≠0)
 ·exact(by decide:(6:Int)≠0)
 ·exact(by decide:(5:Int)≠0)
 ·exact(by decide:(9:Int)≠0)
 ·exact(by decide:(10:Int)≠0)
 exact(by decide:(17:Int)≠0)
theorem DV{n:aj}(h:n.checkN=0):badL n.jP=false∧n.qH=0:=by
 unfold aj.checkN at h;cases hb:badL n.jP
 ·rw[hb]at h; exact⟨rfl,h⟩
 rw[hb,cond_true]at h;have:=qp (JW n) h;unfold badL at hb;obtain⟨p,hp,hp2⟩:=List.any_eq_true.1 hb;rw[this p hp]at hp2;cases hp2
theorem Bj{n:aj}(h:n.checkN=0):1≤n.kind∧n.kind≤3∧1≤n.id∧n.id≤1073741824∧0≤n.depth∧n.depth<8:=by
 have hb:=(DV h).1;simp only[badL,aj.jP,List.any_cons,aAm,az7]at hb;obtain⟨⟨h1,h2⟩,⟨⟨⟨h3,h4⟩,h5⟩,h6⟩,_⟩:=hb;omega
end
section
def wE(f:Nat→Int)(d:Int):Nat→Nat→Nat
 | 0,k=>k
 | m+1,k=>if d<f k then wE f d m (k+1)else k
def JX(n:Nat)(f:Nat→Int)(i:Nat):Nat:=wE f (f i) (n-(i+1)) (i+1)
theorem Hr{f:Nat→Int}{d:Int}:∀(m k:Nat),k≤wE f d m k∧wE f d m k≤k+m∧(∀j,k≤j→j<wE f d m k→d<f j)∧(wE f d m k<k+m→f (wE f d m k)≤d)
 | 0,k=>by simp[wE]; intro j h1 h2; omega
 | m+1,k=>by
  unfold wE
  split
  ·rename_i h
   obtain⟨h1,h2,h3,h4⟩:=Hr (f:=f) (d:=d) m (k+1)
   refine⟨by omega,by omega,fun j hj1 hj2=>?_,fun hl=>h4 (by omega)⟩
   by_cases hk:j=k
   ·rw[hk]; exact h
   ·exact h3 j (by omega) hj2
  ·rename_i h
   exact⟨azx _,by omega,fun j h1 h2=>by omega,fun _=>by omega⟩
theorem aau{n i:Nat}{f:Nat→Int}(hi:i<n):i<JX n f i∧JX n f i≤n∧(∀j,i<j→j<JX n f i→f i<f j)∧(JX n f i<n→f (JX n f i)≤f i):=by
 obtain⟨h1,h2,h3,h4⟩:=Hr (f:=f) (d:=f i) (n-(i+1)) (i+1);unfold JX;exact⟨by omega,by omega,fun j hj=>h3 j (by omega),fun h=>h4 (by omega)⟩
theorem Yk{n i k:Nat}{f:Nat→Int}(hi:i<n)(h1:i<k)(h2:k≤n)(h3:∀j,i<j→j<k→f i<f j)(h4:k<n→f k≤f i):JX n f i=k:=by
 obtain⟨e1,e2,e3,e4⟩:=aau (f:=f) hi;rcases aB4 (JX n f i) k with h | h | h
 ·have:=e4 (by omega); have:=h3 _ e1 h; omega
 ·exact h
 have:=h4 (by omega); have:=e3 k h1 h; omega
structure bD where
 w:Int
 h:Int
 bg:bG
 ns:List aQ
deriving DecidableEq
structure dw where
 kind:Int
 id:Int
 index:Int
 depth:Int
 node:aQ
 color:bG
deriving DecidableEq
def bD.zero:bD:=⟨0,0,bG.none,[]⟩
def aQ.zero:aQ:=bK.key
def EJ(l:List aQ)(k:Nat):Int:=((l[k]?).map aQ.depth).getD 0
def mZ(l:List aQ)(id:Int):Option Nat:=l.findIdx? fun κ=>κ.id==id
def wF(l:List aQ)(id:Int):Int:=match mZ l id with | some i=>i | none => -1
def DW(pre:List aQ):Int:=match pre.getLast? with | none=>0 | some p=>if p.kind=1 then p.depth+1 else p.depth
noncomputable def jQ(pre:List aQ)(x:aQ):Int:=
 if x.chk≠0 then x.chk else if pre.any (fun κ=>κ.id==x.id)then 7 else if x.depth≤DW pre then 0 else 17
noncomputable def jR(pre:List aQ):List aQ→Int×Int
 | []=>(0,0)
 | x::r=>if jQ pre x=0 then jR (pre++[x]) r else (jQ pre x,pre.length)
noncomputable def bD.chk(s:bD):Int×Int:=
 if s.w<1∨256<s.w∨s.h<1∨256<s.h then (6,0)else if 64<s.ns.length then (5,64)else jR [] s.ns
noncomputable def bD.valid(s:bD):Bool:=s.chk.1==0
def Bl(pre:List aQ):List aQ→Prop
 | []=>True
 | x::r=>jQ pre x=0∧Bl (pre++[x]) r
abbrev VL (l:List aQ):Prop:=Bl [] l
theorem Bo:∀{l pre:List aQ},(jR pre l).1=0↔Bl pre l
 | [],pre=>by simp[jR,Bl]
 | x::r,pre=>by
  unfold jR Bl
  split
  ·rename_i h; rw[Bo]; simp[h]
  ·rename_i h; simp[h]
theorem Bl.chk:∀{l pre:List aQ},Bl pre l→jR pre l=(0,0)
 | [],pre,_=>rfl
 | x::r,pre,h=>by unfold jR; rw[azv h.1]; exact h.2.chk
theorem bD.ni{s:bD}:s.valid=true↔(1≤s.w∧s.w≤256∧1≤s.h∧s.h≤256)∧s.ns.length≤64∧VL s.ns:=by
 unfold bD.valid bD.chk;rw[azI];split
 ·rename_i h; constructor
  ·intro h2; cases h2
  rintro⟨h2,_⟩; omega
 split
 ·constructor
  ·intro h2; cases h2
  rintro⟨_,h2,_⟩; omega
 rw[Bo];constructor
 ·intro h2; exact⟨by omega,by omega,h2⟩
 rintro⟨_,_,h2⟩; exact h2
theorem DX{pre:List aQ}{x:aQ}:jQ pre x=0↔x.chk=0∧(∀κ∈pre,κ.id≠x.id)∧x.depth≤DW pre:=by
 unfold jQ;split
 ·rename_i h; exact⟨fun h2=>absurd h2 h,fun h2=>absurd h2.1 h⟩
 rename_i h;split
 ·rename_i h2;obtain⟨κ,h3,h4⟩:=List.any_eq_true.1 h2;exact⟨fun h5=>absurd h5 (by decide),fun h5=>absurd (by simpa using h4) (h5.2.1 κ h3)⟩
 rename_i h2;have h3:∀κ∈pre,κ.id≠x.id:=fun κ hκ he=>h2 (List.any_eq_true.2 ⟨κ,hκ,by simpa using he⟩);split
 ·rename_i h4; exact⟨fun _=>⟨by simpa using h,h3,h4⟩,fun _=>rfl⟩
 rename_i h4; exact⟨fun h5=>absurd h5 (by decide),fun h5=>absurd h5.2.2 h4⟩
theorem KW:∀{l pre:List aQ},Bl pre l↔∀a x b,l=a++x::b→jQ (pre++a) x=0
 | [],pre=>⟨fun _ a x b h=>by simp at h,fun _=>trivial⟩
 | y::r,pre=>by
  unfold Bl
  rw[KW (l:=r)]
  constructor
  ·rintro⟨h1,h2⟩ a x b h
   cases a with
   | nil =>
    simp only[aAv,az3]at h
    rw[aAA,←h.1]; exact h1
   | cons z a =>
    simp only[aAP,az3]at h
    rw[h.1]at h2
    rw[show pre++z::a=(pre++[z])++a by simp]
    exact h2 a x b h.2
  ·intro h
   refine⟨by simpa using h [] y r rfl,fun a x b e=>?_⟩
   rw[show(pre++[y])++a=pre++y::a by simp]
   exact h (y::a) x b (by rw[e]; rfl)
theorem VK{l:List aQ}:VL l↔(∀x∈l,x.chk=0)∧(l.map aQ.id).Nodup∧∀a x b,l=a++x::b→x.depth≤DW a:=by
 unfold VL;rw[KW];simp only[aAv,DX];constructor
 ·intro h;refine⟨fun x hx=>?_,?_,fun a x b e=>(h a x b e).2.2⟩
  ·obtain⟨a,b,e⟩:=List.append_of_mem hx;exact(h a x b e).1
  rw[List.nodup_iff_pairwise_ne];rw[List.pairwise_map];have key:∀(l pre:List aQ),(∀a x b,l=a++x::b→∀κ∈pre++a,κ.id≠x.id)→List.Pairwise (fun a b:aQ=>a.id≠b.id) l:=by
   intro l;induction l with
   | nil=>intro _ _; exact List.Pairwise.nil
   | cons y r ih =>
    intro pre h;refine List.Pairwise.cons (fun z hz=>?_) (ih (pre++[y]) fun a x b e κ hκ=>h (y::a) x b (by rw[e]; rfl) κ (by simpa using hκ));obtain⟨a,b,e⟩:=List.append_of_mem hz;exact h (y::a) z b (by rw[e]; rfl) y (by simp)
  exact key l [] fun a x b e κ hκ=>(h a x b e).2.1 κ (by simpa using hκ)
 rintro⟨h1,h2,h3⟩ a x b e;refine⟨h1 x (by rw[e]; simp),fun κ hκ he=>?_,h3 a x b e⟩;rw[e,aAo,aAi,aA1]at h2;exact h2.2.2 κ.id (azX.2 ⟨κ,hκ,rfl⟩) x.id azJ he
theorem Yl{l:List aQ}{k:Nat}(h:k<l.length):EJ l k=l[k].depth:=by simp[EJ,List.getElem?_eq_getElem h]
theorem bD.aav{s:bD}(h:s.valid=true):s.chk=(0,0):=by
 obtain⟨h1,h2,h3⟩:=bD.ni.1 h;unfold bD.chk;rw[azu (by omega),azu (by omega)];exact h3.chk
theorem Ht{l:List aQ}{id:Int}{i:Nat}(h:mZ l id=some i):∃hi:i<l.length,l[i].id=id:=by
 unfold mZ at h;obtain⟨h1,h2,_⟩:=List.findIdx?_eq_some_iff_getElem.1 h;exact⟨h1,by simpa using h2⟩
theorem VN{l:List aQ}{id:Int}:mZ l id=none↔∀κ∈l,κ.id≠id:=by
 unfold mZ;rw[List.findIdx?_eq_none_iff];simp
def yj(l:List aQ)(i:Nat):Nat:=i+1+((l.drop (i+1)).takeWhile fun κ=>decide (EJ l i<κ.depth)).length
theorem agB{l:List aQ}{i:Nat}(hi:i<l.length):i+1≤yj l i∧yj l i≤l.length:=by
 unfold yj;have:=(List.takeWhile_sublist (l:=l.drop (i+1)) fun κ:aQ=>decide (EJ l i<κ.depth)).length_le;rw[aBt]at this;omega
theorem Ro(l:List aQ)(d:Int):∀m k:Nat,m+k=l.length→wE (EJ l) d m k=k+((l.drop k).takeWhile fun κ=>decide (d<κ.depth)).length
 | 0,k,h=>by rw[aAS (by omega)]; rfl
 | m+1,k,h=>by
  have hk:k<l.length:=by omega
  unfold wE
  rw[Yl hk,←List.getElem_cons_drop hk,List.takeWhile_cons]
  split
  ·rename_i hd
   rw[Ro l d m (k+1) (by omega),azv (by simpa using hd),aAb]; omega
  ·rename_i hd
   rw[azu (by simpa using hd)]; rfl
theorem Rq{l:List aQ}{i:Nat}(hi:i<l.length):yj l i=JX l.length (EJ l) i:=by
 unfold yj JX;rw[Ro l _ _ _ (by omega)]
def dw.named(e:dw):Bool:=
 if e.kind=1 then e.id==0&&(e.depth==0&&e.color==bG.none)
 else if e.kind=2 then e.index==0&&(e.depth==0&&(e.node==aQ.zero&&e.color==bG.none))
 else if e.kind=3 then e.node==aQ.zero&&e.color==bG.none
 else if e.kind=4 then e.id==0&&(e.index==0&&(e.depth==0&&e.color==bG.none))
 else if e.kind=5 then e.id==0&&(e.index==0&&(e.depth==0&&e.node==aQ.zero))
 else false
def agC(l:List aQ)(at':Nat)(more:List aQ):List aQ:=l.take at'++more++l.drop at'
def Rt(l:List aQ)(i j:Nat):List aQ:=l.take i++l.drop j
def amQ(l:List aQ)(i j:Nat):List aQ:=(l.drop i).take (j-i)
def aQ.aqQ(n:aQ)(root to:Int):aQ:={n with depth:=if to<0∨8<to then -1 else n.depth-root+to}
def mg(l:List aQ)(e:dw):Except Int (List aQ):=
 if e.kind=1 then (if e.index<0∨(l.length:Int)<e.index then .error 6 else .ok (agC l e.index.toNat [e.node]))
 else if e.kind=2 then (match mZ l e.id with | none => .error 8 | some i => .ok (Rt l i (yj l i)))
 else if e.kind=3 then (match mZ l e.id with
  | none => .error 8
  | some i=>if e.index<0∨((Rt l i (yj l i)).length:Int)<e.index then .error 6
   else .ok (agC (Rt l i (yj l i)) e.index.toNat ((amQ l i (yj l i)).map fun n=>n.aqQ (EJ l i) e.depth)))
 else if e.kind=4 then (match mZ l e.node.id with
  | none => .error 8
  | some i=>if e.node.depth≠EJ l i then .error 2 else .ok (l.set i e.node))
 else .ok l
def bD.with'(s:bD)(e:dw)(l:List aQ):bD:=⟨s.w,s.h,if e.kind=5 then e.color else s.bg,l⟩
noncomputable def fB(s:bD)(e:dw):bD×Int:=
 if s.valid=false then (.zero,18)else if e.named=false then (.zero,2)else
 match mg s.ns e with
 | .error n=>(.zero,n)
 | .ok l=>if (s.with' e l).chk.1=0 then (s.with' e l,0)else (.zero,(s.with' e l).chk.1)
theorem KX{s t:bD}{e:dw}(h:fB s e=(t,0)):s.valid=true∧e.named=true∧∃l,mg s.ns e = .ok l∧t=s.with' e l∧t.valid=true:=by
 unfold fB at h;split at h
 ·simp at h
 rename_i h1;split at h
 ·simp at h
 rename_i h2;refine⟨by simpa using h1,by simpa using h2,?_⟩;cases hn:mg s.ns e with
 | error n =>
  rw[hn]at h;simp only[azA]at h;exfalso;have h0:=h.2;subst h0;unfold mg at hn;repeat' split at hn
  all_goals first | (simp only[aBg]at hn; omega) | cases hn
 | ok l =>
  rw[hn]at h;simp only at h;split at h
  ·rename_i h3;simp only[azA,and_true]at h;exact⟨l,rfl,h.symm,by rw[←h]; unfold bD.valid; simpa using h3⟩
  rename_i h3;simp only[azA]at h;exact absurd h.2 h3
theorem aaw{s:bD}{e:dw}{l:List aQ}(h1:s.valid=true)(h2:e.named=true)(h3:mg s.ns e = .ok l)(h4:(s.with' e l).valid=true):fB s e=(s.with' e l,0):=by
 unfold fB;rw[azu (by simp[h1]),azu (by simp[h2]),h3];simp only;rw[azv (by rw[bD.aav h4])]
def dw.remove(id:Int):dw:=⟨2,id,0,0,.zero,.none⟩
theorem VO{pre:List aQ}{x:aQ}(h:x.chk≠0):jQ pre x=x.chk:=by unfold jQ; rw[azv h]
def aQ.moved(n:aQ)(root to:Int):aQ:={n with depth:=IntKind.i64.wrap (n.depth+IntKind.i64.wrap (to-root))}
def mD(l:List aQ)(e:dw):Except Int (List aQ):=
 if e.kind=3 then (match mZ l e.id with
  | none => .error 8
  | some i=>if e.index<0∨((Rt l i (yj l i)).length:Int)<e.index then .error 6
   else .ok (agC (Rt l i (yj l i)) e.index.toNat ((amQ l i (yj l i)).map fun n=>n.moved (EJ l i) e.depth)))
 else mg l e
noncomputable def Oa(s:bD)(e:dw):bD×Int:=
 if s.valid=false then (.zero,18)else if e.named=false then (.zero,2)else
 match mD s.ns e with
 | .error n=>(.zero,n)
 | .ok l=>if (s.with' e l).chk.1=0 then (s.with' e l,0)else (.zero,(s.with' e l).chk.1)
end
section
open Go.RowKit
variable{α:Type}{K:Nat}
structure aI where
 w:Int
 h:Int
 bg:bG
 nsa:Option Addr
 nsc:Nat
 ns:List aj
def aI.s(s:aI):Value := .slice s.nsa s.ns.length s.nsc
def aI.cells(s:aI):List Value:=[.i s.w,.i s.h]++s.bg.cells++[s.s]
def aI.v(s:aI):Value := .agg s.cells.toArray
def aI.key(s:aI):bD:=⟨s.w,s.h,s.bg,s.ns.map aj.key⟩
abbrev Bq (K:Nat)(w:World)(v:Value)(l:List aj):Prop:=aJ 47 aj.cells w v l∧∀n∈l,eu K w n
def dI(K:Nat)(w:World)(s:aI):Prop:=I64 s.w∧I64 s.h∧Bq K w s.s s.ns
structure bn where
 kind:Int
 id:Int
 index:Int
 depth:Int
 node:aj
 color:bG
def bn.cells(e:bn):List Value:=[.i e.kind,.i e.id,.i e.index,.i e.depth]++e.node.cells++e.color.cells
def bn.v(e:bn):Value := .agg e.cells.toArray
def bn.key(e:bn):dw:=⟨e.kind,e.id,e.index,e.depth,e.node.key,e.color⟩
def iF(K:Nat)(w:World)(e:bn):Prop:=I64 e.kind∧I64 e.id∧I64 e.index∧I64 e.depth∧eu K w e.node
theorem Bq.below{w w':World}{v:Value}{l:List aj}(h:Bq K w v l)(hb:Ext w w'):Bq K w' v l:=⟨h.1.below hb,fun n hn=>(h.2 n hn).below hb⟩
theorem dI.below{w w':World}{s:aI}(h:dI K w s)(hb:Ext w w'):dI K w' s:=⟨h.1,h.2.1,h.2.2.below hb⟩
theorem iF.below{w w':World}{e:bn}(h:iF K w e)(hb:Ext w w'):iF K w' e:=⟨h.1,h.2.1,h.2.2.1,h.2.2.2.1,h.2.2.2.2.below hb⟩
def aI.zero:aI:=⟨0,0,.none,none,0,[]⟩
theorem kQ(w:World):dI K w .zero:=⟨by decide,by decide,⟨dH _ _ _,fun n hn=>by cases hn⟩⟩
theorem VP(pre:List aQ)(x:aQ):DW (pre++[x])=if x.kind=1 then x.depth+1 else x.depth:=by
 unfold DW;rw[List.getLast?_concat]
end
end Go.Proofs.YtodpgjjgaddkeaaGreatDoor
section
namespace Go.Proofs.YtodpgjjgaddkeaaGreatDoor
open Go.Maps
variable{P:Program}{k e t:TypeId}{b:Nat}{ids:List Int}{w w':World}
def lQ(P:Program)(k e:TypeId)(w:World)(b:Nat)(ids:List Int):Prop:=
 ∃D:DataW Unit,w.ownsMap P k (plainElem P e) b ids.length D∧IsMap D∧∀x:Int,I64 x→D.atKey (.int .i64 x) (.lit (.bool false)) = .lit (.bool (ids.any (· == x)))
theorem VQ(P:Program)(k e:TypeId)(w:World):lQ P k e (w.alloc (.map #[] 0)) w.heap.size []:=
 ⟨.map [],World.ownsMap_made w P k _,isMap_empty,fun x _=>rfl⟩
theorem wf_i64{x:Int}(h:I64 x):(Lit.int .i64 x).wf=true:=by
 obtain⟨h1,h2⟩:=h;have e1:IntKind.i64.min = -9223372036854775808:=by decide
 have e2:IntKind.i64.max=9223372036854775807:=by decide
 simp[Lit.wf,e1,e2];omega
theorem zJ{H:Type}(he:P.underlying e=some .bool){v:Value}{z:DataW H×List MemPlace}(h:plainElem P e v=some z):∃c,v = .bool c∧z=(.lit (.bool c),[]):=by
 unfold plainElem at h;rw[he]at h;cases v<;>simp at h;exact⟨_,rfl,h.symm⟩
theorem lQ.lt(h:lQ P k e w b ids):b<w.heap.size:=by obtain⟨D,h,_⟩:=h; exact h.lt
theorem lQ.kept(h:lQ P k e w b ids)(hb:∀i,i=b→w'.heap[i]?=w.heap[i]?):lQ P k e w' b ids:=by
 obtain⟨D,⟨es,clock,hB,F,hs,hD⟩,h2,h3⟩:=h;exact⟨D,⟨es,clock,(hb b rfl).trans hB,F,hs,hD⟩,h2,h3⟩
theorem lQ.lookup(h:lQ P k e w b ids)(hk:P.underlying k=some (.int .i64))(he:P.underlying e=some .bool)(ht:P.underlying t=some (.map k e))(hz:(zeroValue e).run P w = .ok (.z) w){x:Int}(hx:I64 x) :
  (Instr.lookup t (.map (some b)) (.i x) false).run P w = .ok (.bool (ids.any (· == x))) w:=by
 obtain⟨D,h1,h2,h3⟩:=h;obtain⟨v,ps,hrun,hv⟩:=h1.lookup (int_keyed hk) ht hz (plainElem_bool he false) (keyOf_int_mk hk (wf_i64 hx));obtain⟨c,rfl,hc⟩:=zJ he hv;simp only[azA]at hc;rw[h3 x hx]at hc;obtain⟨hc,-⟩:=hc;cases hc;exact hrun
theorem lQ.update(h:lQ P k e w b ids)(hk:P.underlying k=some (.int .i64))(he:P.underlying e=some .bool)(ht:P.underlying t=some (.map k e))(hn:ids.length<maxLen){x:Int}(hx:I64 x) :
  ∃w',(Instr.mapUpdate t (.map (some b)) (.i x) (.bool true)).run P w = .ok () w'∧lQ P k e w' b (ids++[x])∧w.grownBy w' (some b):=by
 obtain⟨D,h1,h2,h3⟩:=h;obtain⟨w',hrun,ho,hg⟩:=h1.update (int_keyed hk) ht hn (keyOf_int_mk hk (wf_i64 hx)) (plainElem_bool he true);refine⟨w',hrun,⟨D.put (.int .i64 x) (.lit (.bool true)),?_,h2.put _ _,fun y hy=>?_⟩,hg⟩
 ·rw[azz,aCh]; exact ho
 rw[List.any_append,List.any_cons,List.any_nil,Bool.or_false];by_cases hxy:x=y
 ·subst hxy;rw[atKey_put_same h2 (k := .int .i64 x) (by first | trivial | simp[WideAt.IsKeyLit])];simp
 rw[atKey_put_other (by simpa using fun h=>hxy h.symm),h3 y hy];simp[hxy]
end Go.Proofs.YtodpgjjgaddkeaaGreatDoor
namespace Go.Sx
open Go.Proofs.YtodpgjjgaddkeaaGreatDoor Go.RowKit Go.Rel
variable{P:Program}{k e:TypeId}{b:Nat}{ids:List Int}{w w':World}
variable{ops:Array Oper}{Q:Exit→Act→World→Prop}{w0:World}{a:Act}{os:List Oper}{n:Nat}{l:List (Nat×Value)}{bl:List (Nat×List Value)}{vs:List fA}
def Ru(os:List Oper):Option Nat:=match os with
 | o::_=>(match o.guard,o.dst,o.op with
  | none,some d,.makeMap _ none=>some d
  | _,_,_=>none)
 | []=>none
def lookOf(os:List Oper)(l:List (Nat×Value)):Option (TypeId×Nat×Int×Nat):=match os with
 | o::_=>(match o.guard,o.dst,o.op with
  | none,some d,.lookup t x i false=>(match rd (lift l) [] x,rd (lift l) [] i with
   | some (.map (some b)),some (.i z)=>some (t,b,z,d)
   | _,_=>none)
  | _,_,_=>none)
 | []=>none
def ah7(os:List Oper)(l:List (Nat×Value)):Option (TypeId×Nat×Int):=match os with
 | o::_=>(match o.guard,o.dst,o.op with
  | none,none,.mapUpdate t x i v=>(match rd (lift l) [] x,rd (lift l) [] i,rd (lift l) [] v with
   | some (.map (some b)),some (.i z),some (.bool true)=>some (t,b,z)
   | _,_,_=>none)
  | _,_,_=>none)
 | []=>none
theorem aqR(S:St w0 a w n l bl vs)(d:Nat)(next:∀a' w' b,Ext w w'→b=w.heap.size→(∀k e,lQ P k e w' b [])→St w0 a' w' n ((d,.map (some b))::l) bl vs→wpList P ops Q (os.drop 1) a' w')
  (hx:Ru os=some d:=by kernel_rfl) (hd:uY n (some d)=true:=by rfl):wpList P ops Q os a w:=by
 unfold Ru at hx;split at hx
 ·rename_i o os';split at hx
  ·rename_i d' t hg hdst hop;cases hx;have hrun:(execOp a.eval o).run P w = .ok (.value (.map (some w.heap.size))) (w.alloc (.map #[] 0)):=by
    unfold execOp;simp only[hop];rfl
   unfold wpList;rw[azv (by simp[Region.wanted,hg])];left;unfold Oper.wp;rw[hrun];simp only[Oper.upon];have hE:Ext w (w.alloc (.map #[] 0)):=aF _ _;have S1:=S.grow hE;rw[hdst];exact next _ _ w.heap.size hE rfl (fun k e=>VQ P k e w) ⟨uF S.s hd _,S1.E,S1.own,S1.apart,S1.mem⟩
  cases hx
 cases hx
theorem amR(S:St w0 a w n l bl vs)(d:Nat){t:TypeId}{z:Int}(h:lQ P k e w b ids)(hk:P.underlying k=some (.int .i64))(he:P.underlying e=some .bool)(ht:P.underlying t=some (.map k e))(hz:(zeroValue e).run P w = .ok (.z) w)(hi:I64 z)
  (next:∀a',St w0 a' w n ((d,.bool (ids.any (· == z)))::l) bl vs→wpList P ops Q (os.drop 1) a' w)
  (hx:lookOf os l=some (t,b,z,d):=by kernel_rfl) (hd:uY n (some d)=true:=by rfl):wpList P ops Q os a w:=by
 unfold lookOf at hx;split at hx
 ·rename_i o os';split at hx
  ·rename_i d' t' x i hg hdst hop;split at hx
   ·rename_i b' z' hxx hii;cases hx;have hR:=gZ (bZ S.s) o;have hxv:=gV (Std.act a) (hR x (by rw[hop]; simp[Op.operands])) (p:=[]) rfl hxx;have hyv:=gV (Std.act a) (hR i (by rw[hop]; simp[Op.operands])) (p:=[]) rfl hii;have hrun:(execOp a.eval o).run P w = .ok (.value (.bool (ids.any (· == z)))) w:=by
     unfold execOp;simp only[hop,hxv,hyv,aAw,h.lookup hk he ht hz hi];rfl
    unfold wpList;rw[azv (by simp[Region.wanted,hg])];left;unfold Oper.wp;rw[hrun];simp only[Oper.upon];rw[hdst];exact next _ (S.act (uF S.s hd _))
   cases hx
  cases hx
 cases hx
theorem St.aqS(S:St w0 a w n l bl vs)(h:lQ P k e w b ids)(hb:w0.heap.size≤b)(hg:w.grownBy w' (some b))(h1:bl.all (fun p => !p.2.isEmpty)=true)(h2:vs.all (fun m => !m.2.2.isEmpty)=true):St w0 a w' n l bl vs:=by
 have hm:∀i,w.cell? ⟨b,i,none⟩=none:=by
  obtain⟨D,⟨es,clock,hB,_⟩,_⟩:=h;intro i;simp[World.cell?,hB]
 have hcell:∀c i,c<w.heap.size→c≠b→w'.cell? ⟨c,i,none⟩=w.cell? ⟨c,i,none⟩:=by
  intro c i hc hne;simp only[World.cell?];rw[hg.block c hc (fun e=>hne (azF e))]
 have amS:∀c i,c<w.heap.size→c≠b→w'.frozen? ⟨c,i,none⟩=w.frozen? ⟨c,i,none⟩:=by
  intro c i hc hne;simp only[World.frozen?];rw[hg.block c hc (fun e=>hne (azF e))]
 have hE:Ext w0 w':=S.E.grown hg S.E.size (fun k e=>by cases e; exact hb);refine⟨S.s,hE,fun p hp=>?_,S.apart,fun m hmm=>?_⟩
 ·obtain⟨⟨q1,q2,q3⟩,q4⟩:=S.own p hp;have hne:p.1≠b:=by
   intro e;have h3:=az5.1 h1 p hp;have h4:=q2 0;rw[e,hm 0]at h4;cases hA:p.2 with
   | nil=>rw[hA]at h3; cases h3
   | cons x A=>rw[hA]at h4; simp at h4
  exact⟨⟨azY q1 hg.size,fun i=>by rw[hcell _ _ q1 hne]; exact q2 i,fun i=>by rw[amS _ _ q1 hne]; exact q3 i⟩,q4⟩
 obtain⟨⟨q1,q2⟩,q3⟩:=S.mem m hmm;have hne:m.1≠b:=by
  intro e;have h3:=az5.1 h2 m hmm;cases hA:m.2.2 with
  | nil=>rw[hA]at h3; cases h3
  | cons x A =>
   have h4:=q2 0 x (by rw[hA]; rfl);rw[e,hm]at h4;cases h4
 exact⟨⟨azY q1 hg.size,fun i v hi=>by rw[hcell _ _ q1 hne]; exact q2 i v hi⟩,q3⟩
theorem aqT(S:St w0 a w n l bl vs){t:TypeId}{z:Int}(h:lQ P k e w b ids)(hb:w0.heap.size≤b)(hk:P.underlying k=some (.int .i64))(he:P.underlying e=some .bool)(ht:P.underlying t=some (.map k e))(hn:ids.length<maxLen)(hi:I64 z)
  (next:∀w',lQ P k e w' b (ids++[z])→w.grownBy w' (some b)→St w0 a w' n l bl vs→wpList P ops Q (os.drop 1) a w')
  (hx:ah7 os l=some (t,b,z):=by kernel_rfl) (h1:bl.all (fun p => !p.2.isEmpty)=true:=by kernel_rfl) (h2:vs.all (fun m => !m.2.2.isEmpty)=true:=by kernel_rfl):wpList P ops Q os a w:=by
 unfold ah7 at hx;split at hx
 ·rename_i o os';split at hx
  ·rename_i t' x i v hg hdst hop;split at hx
   ·rename_i b' z' hxx hii hvv;cases hx;have hR:=gZ (bZ S.s) o;have hxv:=gV (Std.act a) (hR x (by rw[hop]; simp[Op.operands])) (p:=[]) rfl hxx;have hyv:=gV (Std.act a) (hR i (by rw[hop]; simp[Op.operands])) (p:=[]) rfl hii;have hzv:=gV (Std.act a) (hR v (by rw[hop]; simp[Op.operands])) (p:=[]) rfl hvv;obtain⟨w',hrun,h',hg'⟩:=h.update hk he ht hn hi;have hrun:(execOp a.eval o).run P w = .ok .skip w':=by
     unfold execOp;simp only[hop,hxv,hyv,hzv,aAw,hrun];rfl
    unfold wpList;rw[azv (by simp[Region.wanted,hg])];left;unfold Oper.wp;rw[hrun];simp only[Oper.upon];rw[hdst];exact next _ h' hg' (S.aqS h hb hg' h1 h2)
   cases hx
  cases hx
 cases hx
theorem Rx(h:lQ P k e w b ids):On (fun i=>i=b) (fun w=>lQ P k e w b ids) w:=fun w' hs hb=>h.kept fun i hi=>hb i (by rw[hi]; exact h.lt) hi
end Go.Sx
end
