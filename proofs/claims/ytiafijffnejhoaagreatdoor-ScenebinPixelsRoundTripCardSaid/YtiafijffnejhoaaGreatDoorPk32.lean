/- The key of a node: its content with numbers in lowest -/
import Derived.Test.YtiafijffnejhoaaGreatDoorE36b
set_option linter.unusedVariables false
namespace Go.Proofs.YtiafijffnejhoaaGreatDoor
section
variable{K:Nat}
instance agf:DecidableEq Q6:=fun P Q=>decidable_of_iff (P.a=Q.a∧P.b=Q.b∧P.c=Q.c∧P.d=Q.d∧P.e=Q.e∧P.f=Q.f) (by
 obtain⟨a,b,c,d,e,f⟩:=P;obtain⟨a',b',c',d',e',f'⟩:=Q;simp)
structure Ud where
 w:Int
 h:Int
 l:List aO
deriving DecidableEq
structure AY where
 kind:Int
 color:aO
 p0:kJ
 p1:kJ
 bK:Int
 stops:List iR
 spread:Int
 img:Ud
 dw:Int
 q:Q6
deriving DecidableEq
structure Fa where
 width:Int
 join:Int
 cap:Int
 fZ:Int
 dash:List Int
 phase:Int
deriving DecidableEq
structure aJ where
 id:Int
 kind:Int
 depth:Int
 q:Q6
 clip:List gQ
 aW:Int
 iq:UInt8
 blend:Int
 isolated:Bool
 fM:Bool
 path:List gQ
 bn:Int
 fill:List AY
 style:Fa
 stroke:List AY
 img:Ud
 dw:Int
deriving DecidableEq
def dA.key(m:dA):Ud:=⟨m.w,m.h,m.l⟩
def au.key(p:au):AY:=⟨p.kind,p.color,p.p0,p.p1,p.bK,p.stops,p.spread,p.img.key,p.dw,p.t.q⟩
def aV.key(p:aV):Fa:=⟨p.width,p.join,p.cap,p.fZ,p.dash,p.phase⟩
def aB.key(n:aB):aJ:=⟨n.id,n.kind,n.depth,n.t.q,n.clip,n.aW,n.iq,n.blend,n.isolated,n.fM,n.path,n.bn,n.fill.map au.key,n.style.key,n.stroke.map au.key,n.img.key,n.dw⟩
theorem Fb{a b:UInt8}:(a.toNat:Int)=(b.toNat:Int)↔a=b:=⟨zU,fun h=>by rw[h]⟩
theorem Nw{a b:aO}:(a.r=b.r∧a.g=b.g∧a.b=b.b∧a.a=b.a)↔a=b:=by cases a; cases b; simp
theorem aaI{a b:kJ}:(a.x=b.x∧a.y=b.y)↔a=b:=by cases a; cases b; simp
theorem Fe(m n:dA):m.eq n=decide (m.key=n.key):=by
 rw[aif]; simp[dA.eq,dA.key]
theorem Ny(p q:aV):p.eq q=decide (p.key=q.key):=by
 rw[aif]; simp only[aV.eq,aV.key,Fa.mk.injEq,ahD,ahu,ahK,and_assoc];constructor
 ·rintro⟨h1,h2,h3,h4,h5,h6⟩; exact⟨h1,h2,h3,h4,h6,h5⟩
 rintro⟨h1,h2,h3,h4,h5,h6⟩; exact⟨h1,h2,h3,h4,h6,h5⟩
theorem Nz(P Q:Q6):P.same Q=decide (P=Q):=by
 obtain⟨a,b,c,d,e,f⟩:=P;obtain⟨a',b',c',d',e',f'⟩:=Q;rw[aif]; simp[Q6.same]
theorem YS{P Q:Q6}(hp:uS P)(hq:uS Q):P.eq Q=decide (P=Q):=by rw[←Q6.same_eq hp hq,Nz]
theorem au.aaJ{p q:au}(hp:uS p.t.q)(hq:uS q.t.q):p.eq q=decide (p.key=q.key):=by
 rw[aif];unfold au.eq;rw[YS hp hq,Fe];simp only[ahD,ahu,ahK,Fb,Nw,aaI,au.key,AY.mk.injEq,and_assoc];constructor
 ·rintro⟨h1,h2,h3,h4,h5,h6,h7,h8,h9,h10⟩; exact⟨h1,h2,h3,h4,h5,h8,h6,h9,h7,h10⟩
 rintro⟨h1,h2,h3,h4,h5,h6,h7,h8,h9,h10⟩; exact⟨h1,h2,h3,h4,h5,h7,h9,h6,h8,h10⟩
def Xn(l:List au):Prop:=∀p∈l,uS p.t.q
theorem kP:∀{l m:List au},Xn l→Xn m→bC l m=decide (l.map au.key=m.map au.key)
 | [],[],_,_=>by simp[bC]
 | [],y::m,_,_=>by simp[bC]
 | x::l,[],_,_=>by simp[bC]
 | x::l,y::m,hl,hm=>by
  have ih:=kP (l:=l) (m:=m) (fun p hp=>hl p (aiH _ hp)) (fun p hp=>hm p (aiH _ hp))
  have e:=au.aaJ (hl x ahZ) (hm y ahZ)
  rw[aif]at ih e ⊢
  simp only[bC,ahL,Nat.add_right_cancel_iff,List.zip_cons_cons,List.all_cons,ahN,ahA,ahD,ahK]at ih e ⊢
  rw[e,←ih]
  constructor
  ·rintro⟨h1,h2,h3⟩; exact⟨h2,h1,h3⟩
  ·rintro⟨h1,h2,h3⟩; exact⟨h2,h1,h3⟩
def aB.nrm(n:aB):Prop:=uS n.t.q∧Xn n.fill∧Xn n.stroke
theorem dZ.nrm{w:World}{n:aB}(h:dZ K w n):n.nrm:=
 ⟨(aU.toQ h.1.2.2.2.1 h.2.1).nrm,fun p hp=>(aU.toQ (h.1.2.2.2.2.2.2.2.2.2.1.2 p hp).2.2.2.2.2.2.2.2.2 (h.2.2.1 p hp)).nrm,fun p hp=>(aU.toQ (h.1.2.2.2.2.2.2.2.2.2.2.2.1.2 p hp).2.2.2.2.2.2.2.2.2 (h.2.2.2.1 p hp)).nrm⟩
theorem Ii{a b:Bool}:cond a false b=(!a&&b):=by cases a<;>rfl
theorem Xo{a b:aB}(ha:a.nrm)(hb:b.nrm):a.YR b=decide (a.key=b.key):=by
 rw[aif];unfold aB.YR;rw[YS ha.1 hb.1,kP ha.2.1 hb.2.1,kP ha.2.2 hb.2.2,Fe,Ny];simp only[Ii,ahD,ajh,ah5,bne_eq_false_iff_eq,aiZ,ahu,ahK,Fb,aB.key,aJ.mk.injEq,and_assoc];constructor
 ·rintro⟨h1,h2,h3,h4,h5,h6,h7,h8,h9,h10,h11,h12,h13,MF,h15,h16,h17⟩; exact⟨h1,h2,h3,h11,h12,h4,h5,h6,h7,h8,h13,h9,MF,h16,h15,h17,h10⟩
 rintro⟨h1,h2,h3,h11,h12,h4,h5,h6,h7,h8,h13,h9,MF,h16,h15,h17,h10⟩; exact⟨h1,h2,h3,h4,h5,h6,h7,h8,h9,h10,h11,h12,h13,MF,h15,h16,h17⟩
theorem Xp{a b:aB}(ha:a.nrm)(hb:b.nrm):a.eqR b=decide (a.key=b.key):=by
 rw[aif];unfold aB.eqR;rw[Nz,kP ha.2.1 hb.2.1,kP ha.2.2 hb.2.2,Fe,Ny];simp only[Ii,ahD,ajh,ah5,bne_eq_false_iff_eq,aiZ,ahu,ahK,Fb,aB.key,aJ.mk.injEq,and_assoc];constructor
 ·rintro⟨h1,h2,h3,h11,h4,h9,h10,h5,h6,h7,h8,h12,h13,MF,h15,h16,h17⟩; exact⟨h1,h2,h3,h11,h12,h4,h5,h6,h7,h8,h13,h9,MF,h16,h15,h17,h10⟩
 rintro⟨h1,h2,h3,h11,h12,h4,h5,h6,h7,h8,h13,h9,MF,h16,h15,h17,h10⟩; exact⟨h1,h2,h3,h11,h4,h9,h10,h5,h6,h7,h8,h12,h13,MF,h15,h16,h17⟩
end
section
theorem PW{p q:au}(h:p.key=q.key):p.valid=q.valid:=by
 obtain⟨k,c,p0,p1,r,sva,svc,st,sp,⟨iw,ih,isa,isc,il⟩,sm,t⟩:=p;obtain⟨k',c',p0',p1',r',afc,afd,st',sp',⟨iw',ih',afe,aff,il'⟩,sm',t'⟩:=q;simp only[au.key,dA.key,AY.mk.injEq,Ud.mk.injEq]at h;obtain⟨rfl,rfl,rfl,rfl,rfl,rfl,rfl,⟨rfl,rfl,rfl⟩,rfl,ht⟩:=h;have hw:∀(b:au),(au.without ⟨k,c,p0,p1,r,sva,svc,st,sp,⟨iw,ih,isa,isc,il⟩,sm,t⟩).eq b=(au.without ⟨k,c,p0,p1,r,afc,afd,st,sp,⟨iw,ih,afe,aff,il⟩,sm,t'⟩).eq b:=by
  intro b;unfold au.without;simp only;cases k==1<;>cases k==2<;>cases k==3<;>cases k==4<;>simp only[cond_true,cond_false,au.Ti,au.only2,au.Tj,au.Tm,au.Tn,au.eq]<;>rfl
 unfold au.valid;simp only[hw,ht];rfl
theorem vK:∀{l m:List au},l.map au.key=m.map au.key→l.all au.valid=m.all au.valid
 | [],[],_=>rfl
 | [],_::_,h=>by cases h
 | _::_,[],h=>by cases h
 | x::l,y::m,h=>by
  simp only[ahN,ahA]at h
  rw[List.all_cons,List.all_cons,PW h.1,vK h.2]
theorem KD{a b:aB}(h:a.key=b.key):a.checkN=b.checkN:=by
 simp only[aB.key,aV.key,dA.key,aJ.mk.injEq,Fa.mk.injEq,Ud.mk.injEq]at h;obtain⟨h1,h2,h3,h4,h5,h6,h7,h8,h9,h10,h11,h12,h13,⟨s1,s2,s3,s4,s5,s6⟩,h15,⟨i1,i2,i3⟩,h17⟩:=h;have l1:a.fill.length=b.fill.length:=by have:=ahm List.length h13; simpa using this
 have l2:a.stroke.length=b.stroke.length:=by have:=ahm List.length h15; simpa using this
 have hs:∀p:aV,a.style.eq p=b.style.eq p:=fun p=>by unfold aV.eq; rw[s1,s2,s3,s4,s5,s6]
 have hi:∀m:dA,a.img.eq m=b.img.eq m:=fun m=>by unfold dA.eq; rw[i1,i2,i3]
 have hb:a.bare=b.bare:=by unfold aB.bare; rw[hs,hi,h2,h7,h8,h9,h10,h11,h12,h17,l1,l2]
 have hsv:a.style.valid=b.style.valid:=by unfold aV.valid; rw[s1,s2,s3,s4,s5,s6]
 have hiv:a.img.valid=b.img.valid:=by unfold dA.valid dA.size; rw[i1,i2,i3]
 have hc:a.jg=b.jg:=by unfold aB.jg; rw[hb,h1,h2,h3,h4,h5,h6]
 have hsh:a.xU=b.xU:=by unfold aB.xU; rw[h11,h12,l1,l2,hsv,hs,vK h13,vK h15]
 unfold aB.checkN aB.mW;rw[hc,hsh,h2,h8,hiv,h17]
open Classical in
noncomputable def aJ.chk(κ:aJ):Int:=if h:∃n:aB,n.key=κ then h.choose.checkN else 1
theorem xg(n:aB):n.key.chk=n.checkN:=by
 have h:∃m:aB,m.key=n.key:=⟨n,rfl⟩;unfold aJ.chk;rw[dif_pos h];exact KD h.choose_spec
theorem AZ:∀{l:List (Bool×Int)},(∀p∈l,p.2≠0)→jU l=0→∀p∈l,p.1=false
 | [],_,_,p,hp=>by cases hp
 | q::l,h,h0,p,hp=>by
  unfold jU at h0
  split at h0
  ·exact absurd h0 (h q ahZ)
  ·rename_i hq
   rcases ahw.1 hp with rfl | hp
   ·simpa using hq
   ·exact AZ (fun p hp=>h p (aiH _ hp)) h0 p hp
theorem CX(n:aB):∀p∈n.jg,p.2≠0:=by
 intro p hp;simp only[aB.jg,ahw,List.not_mem_nil,or_false]at hp;rcases hp with rfl | rfl | rfl | rfl | rfl | rfl
 ·exact(by decide:(2:Int)≠0)
 ·exact(by decide:(6:Int)≠0)
 ·exact(by decide:(5:Int)≠0)
 ·exact(by decide:(9:Int)≠0)
 ·exact(by decide:(10:Int)≠0)
 exact(by decide:(17:Int)≠0)
theorem Ij{n:aB}(h:n.checkN=0):badL n.jg=false∧n.mW=0:=by
 unfold aB.checkN at h;cases hb:badL n.jg
 ·rw[hb]at h; exact⟨rfl,h⟩
 rw[hb,cond_true]at h;have:=AZ (CX n) h;unfold badL at hb;obtain⟨p,hp,hp2⟩:=ajp.1 hb;rw[this p hp]at hp2;cases hp2
theorem xk{n:aB}(h:n.checkN=0):1≤n.kind∧n.kind≤3∧1≤n.id∧n.id≤1073741824∧0≤n.depth∧n.depth<8:=by
 have hb:=(Ij h).1;simp only[badL,aB.jg,List.any_cons,ah5,aiu]at hb;obtain⟨⟨h1,h2⟩,⟨⟨⟨h3,h4⟩,h5⟩,h6⟩,_⟩:=hb;omega
theorem aJ.Ue{κ:aJ}(h:κ.chk=0):∃n:aB,n.key=κ∧n.checkN=0:=by
 unfold aJ.chk at h;split at h
 ·rename_i hx; exact⟨hx.choose,hx.choose_spec,h⟩
 cases h
theorem aJ.DL{κ:aJ}(h:κ.chk=0):1≤κ.kind∧κ.kind≤3∧1≤κ.id∧κ.id≤1073741824∧0≤κ.depth∧κ.depth<8:=by
 obtain⟨n,rfl,hn⟩:=aJ.Ue h;exact xk hn
end
section
structure IsTree (n:Nat) (f:Nat→Int):Prop where
 zero:0<n→f 0=0
 nn:∀k,k<n→0≤f k
 step:∀k,k+1<n→f (k+1)≤f k+1
def qU(f:Nat→Int)(d:Int):Nat→Int
 | 0 => -1
 | j+1=>if f j=d then (j:Int)else qU f d j
def vM(f:Nat→Int)(k:Nat):Int:=qU f (f k-1) k
def sJ(f:Nat→Int)(d:Int):Nat→Nat→Nat
 | 0,k=>k
 | m+1,k=>if d<f k then sJ f d m (k+1)else k
def pW(n:Nat)(f:Nat→Int)(i:Nat):Nat:=sJ f (f i) (n-(i+1)) (i+1)
theorem nN{f:Nat→Int}{d:Int}:∀{k j:Nat},qU f d k=(j:Int)→j<k∧f j=d∧∀m,j<m→m<k→f m≠d
 | 0,j,h=>by simp[qU]at h
 | k+1,j,h=>by
  unfold qU at h
  split at h
  ·rename_i e
   obtain rfl:k=j:=by omega
   exact⟨by omega,e,fun m h1 h2=>by omega⟩
  ·rename_i e
   obtain⟨h1,h2,h3⟩:=nN h
   refine⟨by omega,h2,fun m hm1 hm2=>?_⟩
   by_cases hk:m=k
   ·rw[hk]; exact e
   ·exact h3 m hm1 (by omega)
theorem A8{f:Nat→Int}{d:Int}:∀{k:Nat},qU f d k = -1→∀m,m<k→f m≠d
 | 0,_,m,hm=>by omega
 | k+1,h,m,hm=>by
  unfold qU at h
  split at h
  ·omega
  ·rename_i e
   by_cases hk:m=k
   ·rw[hk]; exact e
   ·exact A8 h m (by omega)
theorem sK(f:Nat→Int)(d:Int):∀k:Nat,qU f d k = -1∨∃j:Nat,qU f d k=j
 | 0 => .inl rfl
 | k+1=>by
  unfold qU
  split
  ·exact .inr ⟨k,rfl⟩
  ·exact sK f d k
theorem Ik{f:Nat→Int}{d:Int}:∀{k j:Nat},j<k→f j=d→(∀m,j<m→m<k→f m≠d)→qU f d k=(j:Int)
 | 0,j,h,_,_=>by omega
 | k+1,j,h,h1,h2=>by
  unfold qU
  by_cases hk:j=k
  ·subst hk; rw[ahf h1]
  ·rw[ahe (h2 k (by omega) (by omega))]
   exact Ik (by omega) h1 fun m hm1 hm2=>h2 m hm1 (by omega)
theorem Ba{f:Nat→Int}{d:Int}:∀(m k:Nat),k≤sJ f d m k∧sJ f d m k≤k+m∧(∀j,k≤j→j<sJ f d m k→d<f j)∧(sJ f d m k<k+m→f (sJ f d m k)≤d)
 | 0,k=>by simp[sJ]; intro j h1 h2; omega
 | m+1,k=>by
  unfold sJ
  split
  ·rename_i h
   obtain⟨h1,h2,h3,h4⟩:=Ba (f:=f) (d:=d) m (k+1)
   refine⟨by omega,by omega,fun j hj1 hj2=>?_,fun hl=>h4 (by omega)⟩
   by_cases hk:j=k
   ·rw[hk]; exact h
   ·exact h3 j (by omega) hj2
  ·rename_i h
   exact⟨ahh _,by omega,fun j h1 h2=>by omega,fun _=>by omega⟩
theorem mO{n i:Nat}{f:Nat→Int}(hi:i<n):i<pW n f i∧pW n f i≤n∧(∀j,i<j→j<pW n f i→f i<f j)∧(pW n f i<n→f (pW n f i)≤f i):=by
 obtain⟨h1,h2,h3,h4⟩:=Ba (f:=f) (d:=f i) (n-(i+1)) (i+1);unfold pW;exact⟨by omega,by omega,fun j hj=>h3 j (by omega),fun h=>h4 (by omega)⟩
theorem Xq{n i k:Nat}{f:Nat→Int}(hi:i<n)(h1:i<k)(h2:k≤n)(h3:∀j,i<j→j<k→f i<f j)(h4:k<n→f k≤f i):pW n f i=k:=by
 obtain⟨e1,e2,e3,e4⟩:=mO (f:=f) hi;rcases ajk (pW n f i) k with h | h | h
 ·have:=e4 (by omega); have:=h3 _ e1 h; omega
 ·exact h
 have:=h4 (by omega); have:=e3 k h1 h; omega
theorem IsTree.between{n:Nat}{f:Nat→Int}(T:IsTree n f){k j:Nat}(hk:k<n)(hj:j<k)(hd:f j=f k-1)(hn:∀m,j<m→m<k→f m≠f k-1):∀m,j<m→m<k→f k≤f m:=by
 have key:∀q m,m+q=k→j<m→f k≤f m:=by
  intro q;induction q with
  | zero=>intro m h1 h2; obtain rfl:m=k:=(by omega); exact Int.le_refl _
  | succ q ih =>
   intro m h1 h2;have h3:=ih (m+1) (by omega) (by omega);have h4:=T.step m (by omega);have h5:=hn m h2 (by omega);omega
 intro m h1 h2;exact key (k-m) m (by omega) h1
theorem IsTree.par_none{n:Nat}{f:Nat→Int}(T:IsTree n f){k:Nat}(hk:k<n):vM f k = -1↔f k=0:=by
 constructor
 ·intro h;have hn:=A8 h;have key:∀q,q≤k→f k≤f (k-q)∨∃m,m<k∧f m=f k-1:=by
   intro q;induction q with
   | zero=>intro _; exact .inl (Int.le_refl _)
   | succ q ih =>
    intro hq;rcases ih (by omega)with h1 | h1
    ·have h2:=T.step (k-(q+1)) (by omega);rw[show k-(q+1)+1=k-q by omega]at h2;by_cases h3:f (k-(q+1))=f k-1
     ·exact .inr ⟨_,by omega,h3⟩
     exact .inl (by omega)
    exact .inr h1
  rcases key k (ahh _)with h1 | ⟨m,h1,h2⟩
  ·rw[ai4,T.zero (by omega)]at h1;have:=T.nn k hk;omega
  exact absurd h2 (hn m h1)
 intro h;rcases sK f (f k-1) k with h1 | ⟨j,h1⟩
 ·exact h1
 obtain⟨h2,h3,_⟩:=nN h1;have:=T.nn j (by omega);omega
theorem IsTree.Uf{n:Nat}{f:Nat→Int}(T:IsTree n f){k i:Nat}(hk:k<n):vM f k=(i:Int)↔i<k∧k<pW n f i∧f k=f i+1:=by
 constructor
 ·intro h;obtain⟨h1,h2,h3⟩:=nN h;have hb:=T.between hk h1 h2 h3;have hi:i<n:=by omega
  obtain⟨e1,e2,e3,e4⟩:=mO (f:=f) hi;refine⟨h1,?_,by omega⟩;by_cases h4:k<pW n f i
  ·exact h4
  exfalso;have h5:=e4 (by omega);by_cases h6:pW n f i=k
  ·rw[h6]at h5; omega
  have:=hb _ e1 (by omega); omega
 rintro⟨h1,h2,h3⟩;have hi:i<n:=by omega
 obtain⟨e1,e2,e3,e4⟩:=mO (f:=f) hi;refine Ik h1 (by omega) fun m h4 h5=>?_;have:=e3 m h4 (by omega);omega
theorem IsTree.aaK{f:Nat→Int}{k:Nat}{i:Nat}(h:vM f k=(i:Int)):i<k∧f i=f k-1:=⟨(nN h).1,(nN h).2.1⟩
def xq(f:Nat→Int):Nat→Nat→List Nat
 | 0,_=>[]
 | m+1,k=>(if vM f k<0 then []else xq f m (vM f k).toNat)++[k]
def Bc(f:Nat→Int)(d:Int):Nat→Nat→Nat
 | 0,k=>k
 | m+1,k=>if d<f k then Bc f d m (vM f k).toNat else k
theorem IsTree.NC{n:Nat}{f:Nat→Int}(T:IsTree n f){k:Nat}(hk:k<n)(h:0<f k):∃j:Nat,vM f k=j∧j<k∧f j=f k-1:=by
 rcases sK f (f k-1) k with h1 | ⟨j,h1⟩
 ·have:=(T.par_none hk).1 h1; omega
 exact⟨j,h1,IsTree.aaK h1⟩
theorem IsTree.Ug{n:Nat}{f:Nat→Int}(T:IsTree n f):∀(m k:Nat),k<n→f k<m→xq f m k=(List.range ((f k).toNat+1)).map fun d:Nat=>Bc f d (f k).toNat k
 | 0,k,hk,h=>by have:=T.nn k hk; omega
 | m+1,k,hk,h=>by
  unfold xq
  rcases Int.lt_or_le 0 (f k)with h0 | h0
  ·obtain⟨j,h1,h2,h3⟩:=T.NC hk h0
   rw[h1,ahe (by omega),ajc,T.Ug m j (by omega) (by omega)]
   have e:(f k).toNat=(f j).toNat+1:=by have:=T.nn j (by omega); omega
   rw[e,List.range_succ (n:=(f j).toNat+1),ahT,List.map_singleton]
   congr 1
   ·refine List.map_congr_left fun d hd=>?_
    have hd:=ajo.1 hd
    rw[show Bc f d ((f j).toNat+1) k=Bc f d (f j).toNat j from by
     show(if (d:Int)<f k then Bc f d (f j).toNat (vM f k).toNat else k)=_
     rw[ahf (by omega),h1,ajc]]
   ·have hx:Bc f (((f j).toNat+1:Nat):Int) ((f j).toNat+1) k=k:=by
     show(if (((f j).toNat+1:Nat):Int)<f k then _ else k)=k
     rw[ahe (by omega)]
    rw[hx]
  ·have hz:f k=0:=by have:=T.nn k hk; omega
   rw[(T.par_none hk).2 hz,ahf (by decide),hz]
   simp[Bc]
end
section
structure aY where
 w:Int
 h:Int
 bg:aO
 ns:List aJ
deriving DecidableEq
structure iV where
 kind:Int
 id:Int
 index:Int
 depth:Int
 node:aJ
 color:aO
deriving DecidableEq
def aY.zero:aY:=⟨0,0,aO.none,[]⟩
def aJ.zero:aJ:=qm.key
def vN(l:List aJ)(k:Nat):Int:=((l[k]?).map aJ.depth).getD 0
def Bf(l:List aJ)(id:Int):Option Nat:=l.findIdx? fun κ=>κ.id==id
def YT(l:List aJ)(id:Int):Int:=match Bf l id with | some i=>i | none => -1
def lM(pre:List aJ):Int:=match pre.getLast? with | none=>0 | some p=>if p.kind=1 then p.depth+1 else p.depth
noncomputable def fJ(pre:List aJ)(x:aJ):Int:=
 if x.chk≠0 then x.chk else if pre.any (fun κ=>κ.id==x.id)then 7 else if x.depth≤lM pre then 0 else 17
noncomputable def iy(pre:List aJ):List aJ→Int×Int
 | []=>(0,0)
 | x::r=>if fJ pre x=0 then iy (pre++[x]) r else (fJ pre x,pre.length)
noncomputable def aY.chk(s:aY):Int×Int:=
 if s.w<1∨256<s.w∨s.h<1∨256<s.h then (6,0)else if 64<s.ns.length then (5,64)else iy [] s.ns
noncomputable def aY.valid(s:aY):Bool:=s.chk.1==0
def xu(pre:List aJ):List aJ→Prop
 | []=>True
 | x::r=>fJ pre x=0∧xu (pre++[x]) r
abbrev VL (l:List aJ):Prop:=xu [] l
theorem xw:∀{l pre:List aJ},(iy pre l).1=0↔xu pre l
 | [],pre=>by simp[iy,xu]
 | x::r,pre=>by
  unfold iy xu
  split
  ·rename_i h; rw[xw]; simp[h]
  ·rename_i h; simp[h]
theorem xu.chk:∀{l pre:List aJ},xu pre l→iy pre l=(0,0)
 | [],pre,_=>rfl
 | x::r,pre,h=>by unfold iy; rw[ahf h.1]; exact h.2.chk
theorem aY.yg{s:aY}:s.valid=true↔(1≤s.w∧s.w≤256∧1≤s.h∧s.h≤256)∧s.ns.length≤64∧VL s.ns:=by
 unfold aY.valid aY.chk;rw[ahu];split
 ·rename_i h; constructor
  ·intro h2; cases h2
  rintro⟨h2,_⟩; omega
 split
 ·constructor
  ·intro h2; cases h2
  rintro⟨_,h2,_⟩; omega
 rw[xw];constructor
 ·intro h2; exact⟨by omega,by omega,h2⟩
 rintro⟨_,_,h2⟩; exact h2
theorem yO{pre:List aJ}{x:aJ}:fJ pre x=0↔x.chk=0∧(∀κ∈pre,κ.id≠x.id)∧x.depth≤lM pre:=by
 unfold fJ;split
 ·rename_i h; exact⟨fun h2=>absurd h2 h,fun h2=>absurd h2.1 h⟩
 rename_i h;split
 ·rename_i h2;obtain⟨κ,h3,h4⟩:=ajp.1 h2;exact⟨fun h5=>absurd h5 (by decide),fun h5=>absurd (by simpa using h4) (h5.2.1 κ h3)⟩
 rename_i h2;have h3:∀κ∈pre,κ.id≠x.id:=fun κ hκ he=>h2 (ajp.2 ⟨κ,hκ,by simpa using he⟩);split
 ·rename_i h4; exact⟨fun _=>⟨by simpa using h,h3,h4⟩,fun _=>rfl⟩
 rename_i h4; exact⟨fun h5=>absurd h5 (by decide),fun h5=>absurd h5.2.2 h4⟩
theorem DN:∀{l pre:List aJ},xu pre l↔∀a x b,l=a++x::b→fJ (pre++a) x=0
 | [],pre=>⟨fun _ a x b h=>by simp at h,fun _=>trivial⟩
 | y::r,pre=>by
  unfold xu
  rw[DN (l:=r)]
  constructor
  ·rintro⟨h1,h2⟩ a x b h
   cases a with
   | nil =>
    simp only[aib,ahA]at h
    rw[aix,←h.1]; exact h1
   | cons z a =>
    simp only[ahO,ahA]at h
    rw[h.1]at h2
    rw[show pre++z::a=(pre++[z])++a by simp]
    exact h2 a x b h.2
  ·intro h
   refine⟨by simpa using h [] y r rfl,fun a x b e=>?_⟩
   rw[show(pre++[y])++a=pre++y::a by simp]
   exact h (y::a) x b (by rw[e]; rfl)
theorem KE{l:List aJ}:VL l↔(∀x∈l,x.chk=0)∧(l.map aJ.id).Nodup∧∀a x b,l=a++x::b→x.depth≤lM a:=by
 unfold VL;rw[DN];simp only[aib,yO];constructor
 ·intro h;refine⟨fun x hx=>?_,?_,fun a x b e=>(h a x b e).2.2⟩
  ·obtain⟨a,b,e⟩:=List.append_of_mem hx;exact(h a x b e).1
  rw[List.nodup_iff_pairwise_ne];rw[List.pairwise_map];have key:∀(l pre:List aJ),(∀a x b,l=a++x::b→∀κ∈pre++a,κ.id≠x.id)→List.Pairwise (fun a b:aJ=>a.id≠b.id) l:=by
   intro l;induction l with
   | nil=>intro _ _; exact List.Pairwise.nil
   | cons y r ih =>
    intro pre h;refine List.Pairwise.cons (fun z hz=>?_) (ih (pre++[y]) fun a x b e κ hκ=>h (y::a) x b (by rw[e]; rfl) κ (by simpa using hκ));obtain⟨a,b,e⟩:=List.append_of_mem hz;exact h (y::a) z b (by rw[e]; rfl) y (by simp)
  exact key l [] fun a x b e κ hκ=>(h a x b e).2.1 κ (by simpa using hκ)
 rintro⟨h1,h2,h3⟩ a x b e;refine⟨h1 x (by rw[e]; simp),fun κ hκ he=>?_,h3 a x b e⟩;rw[e,ahT,ahN,aip]at h2;exact h2.2.2 κ.id (ahY.2 ⟨κ,hκ,rfl⟩) x.id ahZ he
theorem oM{l:List aJ}{k:Nat}(h:k<l.length):vN l k=l[k].depth:=by simp[vN,List.getElem?_eq_getElem h]
theorem Uh{a:List aJ}{p:aJ}:lM (a++[p])≤p.depth+1:=by
 unfold lM;rw[List.getLast?_concat];simp only;split<;>omega
theorem VL.tree{l:List aJ}(h:VL l):IsTree l.length (vN l):=by
 obtain⟨h1,h2,h3⟩:=KE.1 h;have hnn:∀k,k<l.length→0≤vN l k:=fun k hk=>by
  rw[oM hk]; exact(aJ.DL (h1 _ (ah3 hk))).2.2.2.2.1
 refine⟨fun h0=>?_,hnn,fun k hk=>?_⟩
 ·have:=h3 [] l[0] (l.drop 1) (by rw[aib,ajw]; rfl);have h4:=hnn 0 h0;rw[oM h0]at h4 ⊢;have h5:lM []=0:=rfl;omega
 have hk':k<l.length:=by omega
 have e:l=l.take (k+1)++l[k+1]::l.drop (k+2):=by rw[ajw,ait]
 have:=h3 _ _ _ e;rw[ahM hk']at this;have h6:=Uh (a:=l.take k) (p:=l[k]);rw[oM hk,oM hk'];omega
end
section
theorem aY.PX{s:aY}(h:s.valid=true):s.chk=(0,0):=by
 obtain⟨h1,h2,h3⟩:=aY.yg.1 h;unfold aY.chk;rw[ahe (by omega),ahe (by omega)];exact h3.chk
def iW(l:List aJ)(i:Nat):Nat:=i+1+((l.drop (i+1)).takeWhile fun κ=>decide (vN l i<κ.depth)).length
theorem Fg{l:List aJ}{i:Nat}(hi:i<l.length):i+1≤iW l i∧iW l i≤l.length:=by
 unfold iW;have:=(List.takeWhile_sublist (l:=l.drop (i+1)) fun κ:aJ=>decide (vN l i<κ.depth)).length_le;rw[List.length_drop]at this;omega
theorem Il(l:List aJ)(d:Int):∀m k:Nat,m+k=l.length→sJ (vN l) d m k=k+((l.drop k).takeWhile fun κ=>decide (d<κ.depth)).length
 | 0,k,h=>by rw[aic (by omega)]; rfl
 | m+1,k,h=>by
  have hk:k<l.length:=by omega
  unfold sJ
  rw[oM hk,←ajw hk,List.takeWhile_cons]
  split
  ·rename_i hd
   rw[Il l d m (k+1) (by omega),ahf (by simpa using hd),ahL]; omega
  ·rename_i hd
   rw[ahe (by simpa using hd)]; rfl
theorem Io{l:List aJ}{i:Nat}(hi:i<l.length):iW l i=pW l.length (vN l) i:=by
 unfold iW pW;rw[Il l _ _ _ (by omega)]
def iV.named(e:iV):Bool:=
 if e.kind=1 then e.id==0&&(e.depth==0&&e.color==aO.none)
 else if e.kind=2 then e.index==0&&(e.depth==0&&(e.node==aJ.zero&&e.color==aO.none))
 else if e.kind=3 then e.node==aJ.zero&&e.color==aO.none
 else if e.kind=4 then e.id==0&&(e.index==0&&(e.depth==0&&e.color==aO.none))
 else if e.kind=5 then e.id==0&&(e.index==0&&(e.depth==0&&e.node==aJ.zero))
 else false
def acR(l:List aJ)(at':Nat)(more:List aJ):List aJ:=l.take at'++more++l.drop at'
def KF(l:List aJ)(i j:Nat):List aJ:=l.take i++l.drop j
def afg(l:List aJ)(i j:Nat):List aJ:=(l.drop i).take (j-i)
def aJ.afh(n:aJ)(root to:Int):aJ:={n with depth:=if to<0∨8<to then -1 else n.depth-root+to}
def KG(l:List aJ)(e:iV):Except Int (List aJ):=
 if e.kind=1 then (if e.index<0∨(l.length:Int)<e.index then .error 6 else .ok (acR l e.index.toNat [e.node]))
 else if e.kind=2 then (match Bf l e.id with | none => .error 8 | some i => .ok (KF l i (iW l i)))
 else if e.kind=3 then (match Bf l e.id with
  | none => .error 8
  | some i=>if e.index<0∨((KF l i (iW l i)).length:Int)<e.index then .error 6
   else .ok (acR (KF l i (iW l i)) e.index.toNat ((afg l i (iW l i)).map fun n=>n.afh (vN l i) e.depth)))
 else if e.kind=4 then (match Bf l e.node.id with
  | none => .error 8
  | some i=>if e.node.depth≠vN l i then .error 2 else .ok (l.set i e.node))
 else .ok l
def aY.with'(s:aY)(e:iV)(l:List aJ):aY:=⟨s.w,s.h,if e.kind=5 then e.color else s.bg,l⟩
noncomputable def oU(s:aY)(e:iV):aY×Int:=
 if s.valid=false then (.zero,18)else if e.named=false then (.zero,2)else
 match KG s.ns e with
 | .error n=>(.zero,n)
 | .ok l=>if (s.with' e l).chk.1=0 then (s.with' e l,0)else (.zero,(s.with' e l).chk.1)
theorem PY{s:aY}{e:iV}{l:List aJ}(h1:s.valid=true)(h2:e.named=true)(h3:KG s.ns e = .ok l)(h4:(s.with' e l).valid=true):oU s e=(s.with' e l,0):=by
 unfold oU;rw[ahe (by simp[h1]),ahe (by simp[h2]),h3];simp only;rw[ahf (by rw[aY.PX h4])]
def iV.remove(id:Int):iV:=⟨2,id,0,0,.zero,.none⟩
def iV.replace(n:aJ):iV:=⟨4,0,0,0,n,.none⟩
noncomputable def dG:aY→List iV→Nat→aY×Int×Int
 | s,[],k=>(s,k,0)
 | s,e::r,k=>if (oU s e).2=0 then dG (oU s e).1 r (k+1)else (.zero,k,(oU s e).2)
end
end Go.Proofs.YtiafijffnejhoaaGreatDoor
