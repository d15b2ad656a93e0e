/- The key of a node: its content with numbers in lowest -/
import Derived.Test.YtfmkkemfhjkajaaGreatDoorE36b
set_option linter.unusedVariables false
namespace Go.Proofs.YtfmkkemfhjkajaaGreatDoor
section
variable{K:Nat}
instance ajG:DecidableEq Q6:=fun P Q=>decidable_of_iff (P.a=Q.a∧P.b=Q.b∧P.c=Q.c∧P.d=Q.d∧P.e=Q.e∧P.f=Q.f) (by
 obtain⟨a,b,c,d,e,f⟩:=P;obtain⟨a',b',c',d',e',f'⟩:=Q;simp)
structure WE where
 w:Int
 h:Int
 l:List dF
deriving DecidableEq
structure Gv where
 kind:Int
 color:dF
 p0:kK
 p1:kK
 bn:Int
 stops:List fM
 spread:Int
 img:WE
 bP:Int
 q:Q6
deriving DecidableEq
structure ES where
 width:Int
 join:Int
 cap:Int
 dX:Int
 dash:List Int
 phase:Int
deriving DecidableEq
structure aI where
 id:Int
 kind:Int
 depth:Int
 q:Q6
 clip:List dY
 aJ:Int
 dH:UInt8
 blend:Int
 isolated:Bool
 bM:Bool
 path:List dY
 aO:Int
 fill:List Gv
 style:ES
 stroke:List Gv
 img:WE
 bP:Int
deriving DecidableEq
def bW.key(m:bW):WE:=⟨m.w,m.h,m.l⟩
def ak.key(p:ak):Gv:=⟨p.kind,p.color,p.p0,p.p1,p.bn,p.stops,p.spread,p.img.key,p.bP,p.t.q⟩
def aX.key(p:aX):ES:=⟨p.width,p.join,p.cap,p.dX,p.dash,p.phase⟩
def aj.key(n:aj):aI:=⟨n.id,n.kind,n.depth,n.t.q,n.clip,n.aJ,n.dH,n.blend,n.isolated,n.bM,n.path,n.aO,n.fill.map ak.key,n.style.key,n.stroke.map ak.key,n.img.key,n.bP⟩
theorem Lp{a b:UInt8}:(a.toNat:Int)=(b.toNat:Int)↔a=b:=⟨Fe,fun h=>by rw[h]⟩
theorem Vz{a b:dF}:(a.r=b.r∧a.g=b.g∧a.b=b.b∧a.a=b.a)↔a=b:=by cases a; cases b; simp
theorem aeE{a b:kK}:(a.x=b.x∧a.y=b.y)↔a=b:=by cases a; cases b; simp
theorem Ls(m n:bW):m.eq n=decide (m.key=n.key):=by
 rw[al4]; simp[bW.eq,bW.key]
theorem VA(p q:aX):p.eq q=decide (p.key=q.key):=by
 rw[al4]; simp only[aX.eq,aX.key,ES.mk.injEq,alr,alu,alz,and_assoc];constructor
 ·rintro⟨h1,h2,h3,h4,h5,h6⟩; exact⟨h1,h2,h3,h4,h6,h5⟩
 rintro⟨h1,h2,h3,h4,h5,h6⟩; exact⟨h1,h2,h3,h4,h6,h5⟩
theorem VB(P Q:Q6):P.same Q=decide (P=Q):=by
 obtain⟨a,b,c,d,e,f⟩:=P;obtain⟨a',b',c',d',e',f'⟩:=Q;rw[al4]; simp[Q6.same]
theorem adb{P Q:Q6}(hp:wH P)(hq:wH Q):P.eq Q=decide (P=Q):=by rw[←Q6.same_eq hp hq,VB]
theorem ak.aeF{p q:ak}(hp:wH p.t.q)(hq:wH q.t.q):p.eq q=decide (p.key=q.key):=by
 rw[al4];unfold ak.eq;rw[adb hp hq,Ls];simp only[alr,alu,alz,Lp,Vz,aeE,ak.key,Gv.mk.injEq,and_assoc];constructor
 ·rintro⟨h1,h2,h3,h4,h5,h6,h7,h8,h9,h10⟩; exact⟨h1,h2,h3,h4,h5,h8,h6,h9,h7,h10⟩
 rintro⟨h1,h2,h3,h4,h5,h6,h7,h8,h9,h10⟩; exact⟨h1,h2,h3,h4,h5,h7,h9,h6,h8,h10⟩
def acn(l:List ak):Prop:=∀p∈l,wH p.t.q
theorem oC:∀{l m:List ak},acn l→acn m→bT l m=decide (l.map ak.key=m.map ak.key)
 | [],[],_,_=>by simp[bT]
 | [],y::m,_,_=>by simp[bT]
 | x::l,[],_,_=>by simp[bT]
 | x::l,y::m,hl,hm=>by
  have ih:=oC (l:=l) (m:=m) (fun p hp=>hl p (ams _ hp)) (fun p hp=>hm p (ams _ hp))
  have e:=ak.aeF (hl x alB) (hm y alB)
  rw[al4]at ih e ⊢
  simp only[bT,al2,Nat.add_right_cancel_iff,List.zip_cons_cons,anq,alT,alU,alr,alz]at ih e ⊢
  rw[e,←ih]
  constructor
  ·rintro⟨h1,h2,h3⟩; exact⟨h2,h1,h3⟩
  ·rintro⟨h1,h2,h3⟩; exact⟨h2,h1,h3⟩
def aj.nrm(n:aj):Prop:=wH n.t.q∧acn n.fill∧acn n.stroke
theorem fK.nrm{w:World}{n:aj}(h:fK K w n):n.nrm:=
 ⟨(aQ.toQ h.1.2.2.2.1 h.2.1).nrm,fun p hp=>(aQ.toQ (h.1.2.2.2.2.2.2.2.2.2.1.2 p hp).2.2.2.2.2.2.2.2.2 (h.2.2.1 p hp)).nrm,fun p hp=>(aQ.toQ (h.1.2.2.2.2.2.2.2.2.2.2.2.1.2 p hp).2.2.2.2.2.2.2.2.2 (h.2.2.2.1 p hp)).nrm⟩
theorem Pq{a b:Bool}:cond a false b=(!a&&b):=by cases a<;>rfl
theorem aco{a b:aj}(ha:a.nrm)(hb:b.nrm):a.eqP b=decide (a.key=b.key):=by
 rw[al4];unfold aj.eqP;rw[adb ha.1 hb.1,oC ha.2.1 hb.2.1,oC ha.2.2 hb.2.2,Ls,VA];simp only[Pq,alr,amU,al0,bne_eq_false_iff_eq,amL,alu,alz,Lp,aj.key,aI.mk.injEq,and_assoc];constructor
 ·rintro⟨h1,h2,h3,h4,h5,h6,h7,h8,h9,h10,h11,h12,h13,UL,h15,h16,h17⟩; exact⟨h1,h2,h3,h11,h12,h4,h5,h6,h7,h8,h13,h9,UL,h16,h15,h17,h10⟩
 rintro⟨h1,h2,h3,h11,h12,h4,h5,h6,h7,h8,h13,h9,UL,h16,h15,h17,h10⟩; exact⟨h1,h2,h3,h4,h5,h6,h7,h8,h9,h10,h11,h12,h13,UL,h15,h16,h17⟩
theorem acp{a b:aj}(ha:a.nrm)(hb:b.nrm):a.eqR b=decide (a.key=b.key):=by
 rw[al4];unfold aj.eqR;rw[VB,oC ha.2.1 hb.2.1,oC ha.2.2 hb.2.2,Ls,VA];simp only[Pq,alr,amU,al0,bne_eq_false_iff_eq,amL,alu,alz,Lp,aj.key,aI.mk.injEq,and_assoc];constructor
 ·rintro⟨h1,h2,h3,h11,h4,h9,h10,h5,h6,h7,h8,h12,h13,UL,h15,h16,h17⟩; exact⟨h1,h2,h3,h11,h12,h4,h5,h6,h7,h8,h13,h9,UL,h16,h15,h17,h10⟩
 rintro⟨h1,h2,h3,h11,h12,h4,h5,h6,h7,h8,h13,h9,UL,h16,h15,h17,h10⟩; exact⟨h1,h2,h3,h11,h4,h9,h10,h5,h6,h7,h8,h12,h13,UL,h15,h16,h17⟩
theorem Gw(n:aj):n.lC=n.style.eq aX.bare:=by
 rw[al4];unfold aj.lC aX.eq aX.bare;simp only[alr,alu,alz];have h0:(n.style.dash.length:Int)=0↔n.style.dash=[]:=by
  rw[←List.length_eq_zero_iff]; omega
 rw[h0];constructor
 ·rintro⟨⟨⟨⟨⟨h1,h2⟩,h3⟩,h4⟩,h5⟩,h6⟩; exact⟨⟨⟨⟨⟨h1,h2⟩,h3⟩,h4⟩,h6⟩,h5⟩
 rintro⟨⟨⟨⟨⟨h1,h2⟩,h3⟩,h4⟩,h6⟩,h5⟩; exact⟨⟨⟨⟨⟨h1,h2⟩,h3⟩,h4⟩,h5⟩,h6⟩
theorem TA(n:aj):n.qM=(n.img.eq bW.bare&&(n.bP==0)):=by
 have h0:((n.img.l.length:Int)==0)=(n.img.l==[]):=by
  rw[al4]; simp only[alu]; rw[←List.length_eq_zero_iff]; omega
 unfold aj.qM bW.eq bW.bare;rw[h0];ac_rfl
theorem TB(n:aj):(!n.qL)=((!(((((n.clip.length:Int))==0)&&((n.aJ)==0))||((decide (0<(n.clip.length:Int)))&&((n.aJ==1)||(n.aJ==2)))))||(!(n.bare))):=by
 unfold aj.qL aj.bare;rw[Gw,TA];unfold aj.pF aj.qN;generalize n.style.eq aX.bare=s;generalize n.img.eq bW.bare=i;have hn:(decide (0<(n.clip.length:Int))) = !((n.clip.length:Int)==0):=by
  rw[al4]; simp only[alz,amU,alp]; omega
 rw[hn,show(n.aJ != 0) = !(n.aJ==0)from rfl];cases h1:n.kind==1<;>cases h2:n.kind==2<;>simp only[cond_true,cond_false];all_goals
  cases (n.clip.length:Int)==0<;>cases n.aJ==0<;>cases n.aJ==1<;>cases n.aJ==2<;>simp[am3]
theorem TD(n:aj):n.lW=kE n.uT:=by
 unfold aj.lW aj.uT;rw[Gw];have hn:((n.stroke.length:Int)==0) = !(decide (0<(n.stroke.length:Int))):=by
  rw[al4]; simp only[amU,amc,alu]; omega
 rw[hn];simp only[kE,Bool.cond_eq_ite]
theorem TF(n:aj):n.jS=n.checkN:=by
 unfold aj.jS aj.checkN aj.ql;rw[TB,TD];have hq:(kM n.t.q.vW q0==0)=oG n.t.q.vW q0:=rfl;rw[hq];unfold aj.gU;generalize ((!(((((n.clip.length:Int))==0)&&((n.aJ)==0))||((decide (0<(n.clip.length:Int)))&&((n.aJ==1)||(n.aJ==2)))))||(!(n.bare)))=f;generalize ((decide (n.kind<1))||(decide (3<n.kind)))=a;generalize ((((decide (n.id<1))||(decide (1073741824<n.id)))||(decide (n.depth<0)))||(decide (8≤n.depth)))=b;generalize kE n.uT=s;cases h1:n.kind==1<;>cases h2:n.kind==2<;>cases a<;>cases b<;>cases n.t.q.valid<;>cases oG n.t.q.vW q0<;>cases iY n.clip<;>cases f<;>simp[badL,kE,Bool.cond_eq_ite];all_goals
  have h1':n.kind=1:=by simpa using h1
  rw[h1']at h2
  simp at h2
end
section
theorem XK{p q:ak}(h:p.key=q.key):p.valid=q.valid:=by
 obtain⟨k,c,p0,p1,r,sva,svc,st,sp,⟨iw,ih,isa,isc,il⟩,sm,t⟩:=p;obtain⟨k',c',p0',p1',r',ail,ain,st',sp',⟨iw',ih',aio,aip,il'⟩,sm',t'⟩:=q;simp only[ak.key,bW.key,Gv.mk.injEq,WE.mk.injEq]at h;obtain⟨rfl,rfl,rfl,rfl,rfl,rfl,rfl,⟨rfl,rfl,rfl⟩,rfl,ht⟩:=h;have hw:∀(b:ak),(ak.without ⟨k,c,p0,p1,r,sva,svc,st,sp,⟨iw,ih,isa,isc,il⟩,sm,t⟩).eq b=(ak.without ⟨k,c,p0,p1,r,ail,ain,st,sp,⟨iw,ih,aio,aip,il⟩,sm,t'⟩).eq b:=by
  intro b;unfold ak.without;simp only;cases k==1<;>cases k==2<;>cases k==3<;>cases k==4<;>simp only[cond_true,cond_false,ak.Vg,ak.only2,ak.Vh,ak.Vj,ak.aas,ak.eq]<;>rfl
 unfold ak.valid;simp only[hw,ht];rfl
theorem zM:∀{l m:List ak},l.map ak.key=m.map ak.key→l.all ak.valid=m.all ak.valid
 | [],[],_=>rfl
 | [],_::_,h=>by cases h
 | _::_,[],h=>by cases h
 | x::l,y::m,h=>by
  simp only[alT,alU]at h
  rw[anq,anq,XK h.1,zM h.2]
theorem TG{a b:aj}(h:a.key=b.key):a.checkN=b.checkN:=by
 simp only[aj.key,aX.key,bW.key,aI.mk.injEq,ES.mk.injEq,WE.mk.injEq]at h;obtain⟨h1,h2,h3,h4,h5,h6,h7,h8,h9,h10,h11,h12,h13,⟨s1,s2,s3,s4,s5,s6⟩,h15,⟨i1,i2,i3⟩,h17⟩:=h;have l1:a.fill.length=b.fill.length:=by have:=alb List.length h13; simpa using this
 have l2:a.stroke.length=b.stroke.length:=by have:=alb List.length h15; simpa using this
 have hs:∀p:aX,a.style.eq p=b.style.eq p:=fun p=>by unfold aX.eq; rw[s1,s2,s3,s4,s5,s6]
 have hi:∀m:bW,a.img.eq m=b.img.eq m:=fun m=>by unfold bW.eq; rw[i1,i2,i3]
 have hb:a.bare=b.bare:=by unfold aj.bare; rw[hs,hi,h2,h7,h8,h9,h10,h11,h12,h17,l1,l2]
 have hsv:a.style.valid=b.style.valid:=by unfold aX.valid; rw[s1,s2,s3,s4,s5,s6]
 have hiv:a.img.valid=b.img.valid:=by unfold bW.valid bW.size; rw[i1,i2,i3]
 have hc:a.gU=b.gU:=by unfold aj.gU; rw[hb,h1,h2,h3,h4,h5,h6]
 have hsh:a.uT=b.uT:=by unfold aj.uT; rw[h11,h12,l1,l2,hsv,hs,zM h13,zM h15]
 unfold aj.checkN aj.ql;rw[hc,hsh,h2,h8,hiv,h17]
open Classical in
noncomputable def aI.chk(κ:aI):Int:=if h:∃n:aj,n.key=κ then h.choose.checkN else 1
theorem nX(n:aj):n.key.chk=n.checkN:=by
 have h:∃m:aj,m.key=n.key:=⟨n,rfl⟩;unfold aI.chk;rw[dif_pos h];exact TG h.choose_spec
theorem Gx:∀{l:List (Bool×Int)},(∀p∈l,p.2≠0)→kE l=0→∀p∈l,p.1=false
 | [],_,_,p,hp=>by cases hp
 | q::l,h,h0,p,hp=>by
  unfold kE at h0
  split at h0
  ·exact absurd h0 (h q alB)
  ·rename_i hq
   rcases alA.1 hp with rfl | hp
   ·simpa using hq
   ·exact Gx (fun p hp=>h p (ams _ hp)) h0 p hp
theorem IQ(n:aj):∀p∈n.gU,p.2≠0:=by
 intro p hp;simp only[aj.gU,alA,List.not_mem_nil,or_false]at hp;rcases hp with rfl | rfl | rfl | rfl | rfl | rfl
 ·exact(by decide:(2:Int)≠0)
 ·exact(by decide:(6:Int)≠0)
 ·exact(by decide:(5:Int)≠0)
 ·exact(by decide:(9:Int)≠0)
 ·exact(by decide:(10:Int)≠0)
 exact(by decide:(17:Int)≠0)
theorem Dq{n:aj}(h:n.checkN=0):badL n.gU=false∧n.ql=0:=by
 unfold aj.checkN at h;cases hb:badL n.gU
 ·rw[hb]at h; exact⟨rfl,h⟩
 rw[hb,cond_true]at h;have:=Gx (IQ n) h;unfold badL at hb;obtain⟨p,hp,hp2⟩:=anw.1 hb;rw[this p hp]at hp2;cases hp2
theorem qO{n:aj}(h:n.checkN=0):1≤n.kind∧n.kind≤3∧1≤n.id∧n.id≤1073741824∧0≤n.depth∧n.depth<8:=by
 have hb:=(Dq h).1;simp only[badL,aj.gU,List.any_cons,al0,amc]at hb;obtain⟨⟨h1,h2⟩,⟨⟨⟨h3,h4⟩,h5⟩,h6⟩,_⟩:=hb;omega
theorem Aq{n:aj}(h:n.checkN=0)(d:Int):({n with depth:=d}:aj).checkN=if 0≤d∧d<8 then 0 else 6:=by
 obtain⟨hb,ho⟩:=Dq h;have ho':({n with depth:=d}:aj).ql=0:=ho;have hcL:({n with depth:=d}:aj).gU=((decide (n.kind<1))||(decide (3<n.kind)),2)::((((decide (n.id<1))||(decide (1073741824<n.id)))||(decide (d<0)))||(decide (8≤d)),6)::n.gU.drop 2:=rfl;have hb2:badL (n.gU.drop 2)=false:=by
  simp only[badL]at hb ⊢;rw[show n.gU=n.gU.take 2++n.gU.drop 2 from(amA _ _).symm,List.any_append,al0]at hb;exact hb.2
 have hf:=qO h;have e1:((decide (n.kind<1))||(decide (3<n.kind)))=false:=by simp; omega
 have e2:((decide (n.id<1))||(decide (1073741824<n.id)))=false:=by simp; omega
 unfold aj.checkN;rw[ho',hcL,e1,e2];by_cases hd:0≤d∧d<8
 ·have e3:((false||decide (d<0))||decide (8≤d))=false:=by simp; omega
  rw[ale hd,e3];unfold badL;rw[List.any_cons,List.any_cons];have:(n.gU.drop 2).any (·.1)=false:=hb2;rw[this];rfl
 have e3:((false||decide (d<0))||decide (8≤d))=true:=by simp; omega
 rw[ak9 hd,e3];rfl
theorem aI.Pv{κ:aI}(h:κ.chk=0):∃n:aj,n.key=κ∧n.checkN=0:=by
 unfold aI.chk at h;split at h
 ·rename_i hx; exact⟨hx.choose,hx.choose_spec,h⟩
 cases h
theorem aI.Cc{κ:aI}(h:κ.chk=0):1≤κ.kind∧κ.kind≤3∧1≤κ.id∧κ.id≤1073741824∧0≤κ.depth∧κ.depth<8:=by
 obtain⟨n,rfl,hn⟩:=aI.Pv h;exact qO hn
theorem aI.JB{κ:aI}(h:κ.chk=0)(d:Int):({κ with depth:=d}:aI).chk=if 0≤d∧d<8 then 0 else 6:=by
 obtain⟨n,rfl,hn⟩:=aI.Pv h;rw[show({n.key with depth:=d}:aI)=({n with depth:=d}:aj).key from rfl,nX,Aq hn]
end
section
structure IsTree (n:Nat) (f:Nat→Int):Prop where
 zero:0<n→f 0=0
 nn:∀k,k<n→0≤f k
 step:∀k,k+1<n→f (k+1)≤f k+1
def mW(f:Nat→Int)(d:Int):Nat→Int
 | 0 => -1
 | j+1=>if f j=d then (j:Int)else mW f d j
def sD(f:Nat→Int)(k:Nat):Int:=mW f (f k-1) k
def xG(f:Nat→Int)(d:Int):Nat→Nat→Nat
 | 0,k=>k
 | m+1,k=>if d<f k then xG f d m (k+1)else k
def uK(n:Nat)(f:Nat→Int)(i:Nat):Nat:=xG f (f i) (n-(i+1)) (i+1)
theorem rU{f:Nat→Int}{d:Int}:∀{k j:Nat},mW f d k=(j:Int)→j<k∧f j=d∧∀m,j<m→m<k→f m≠d
 | 0,j,h=>by simp[mW]at h
 | k+1,j,h=>by
  unfold mW at h
  split at h
  ·rename_i e
   obtain rfl:k=j:=by omega
   exact⟨by omega,e,fun m h1 h2=>by omega⟩
  ·rename_i e
   obtain⟨h1,h2,h3⟩:=rU h
   refine⟨by omega,h2,fun m hm1 hm2=>?_⟩
   by_cases hk:m=k
   ·rw[hk]; exact e
   ·exact h3 m hm1 (by omega)
theorem Gy{f:Nat→Int}{d:Int}:∀{k:Nat},mW f d k = -1→∀m,m<k→f m≠d
 | 0,_,m,hm=>by omega
 | k+1,h,m,hm=>by
  unfold mW at h
  split at h
  ·omega
  ·rename_i e
   by_cases hk:m=k
   ·rw[hk]; exact e
   ·exact Gy h m (by omega)
theorem xH(f:Nat→Int)(d:Int):∀k:Nat,mW f d k = -1∨∃j:Nat,mW f d k=j
 | 0 => .inl rfl
 | k+1=>by
  unfold mW
  split
  ·exact .inr ⟨k,rfl⟩
  ·exact xH f d k
theorem Px{f:Nat→Int}{d:Int}:∀{k j:Nat},j<k→f j=d→(∀m,j<m→m<k→f m≠d)→mW f d k=(j:Int)
 | 0,j,h,_,_=>by omega
 | k+1,j,h,h1,h2=>by
  unfold mW
  by_cases hk:j=k
  ·subst hk; rw[ale h1]
  ·rw[ak9 (h2 k (by omega) (by omega))]
   exact Px (by omega) h1 fun m hm1 hm2=>h2 m hm1 (by omega)
theorem Gz{f:Nat→Int}{d:Int}:∀(m k:Nat),k≤xG f d m k∧xG f d m k≤k+m∧(∀j,k≤j→j<xG f d m k→d<f j)∧(xG f d m k<k+m→f (xG f d m k)≤d)
 | 0,k=>by simp[xG]; intro j h1 h2; omega
 | m+1,k=>by
  unfold xG
  split
  ·rename_i h
   obtain⟨h1,h2,h3,h4⟩:=Gz (f:=f) (d:=d) m (k+1)
   refine⟨by omega,by omega,fun j hj1 hj2=>?_,fun hl=>h4 (by omega)⟩
   by_cases hk:j=k
   ·rw[hk]; exact h
   ·exact h3 j (by omega) hj2
  ·rename_i h
   exact⟨alf _,by omega,fun j h1 h2=>by omega,fun _=>by omega⟩
theorem rD{n i:Nat}{f:Nat→Int}(hi:i<n):i<uK n f i∧uK n f i≤n∧(∀j,i<j→j<uK n f i→f i<f j)∧(uK n f i<n→f (uK n f i)≤f i):=by
 obtain⟨h1,h2,h3,h4⟩:=Gz (f:=f) (d:=f i) (n-(i+1)) (i+1);unfold uK;exact⟨by omega,by omega,fun j hj=>h3 j (by omega),fun h=>h4 (by omega)⟩
theorem Ap{n i k:Nat}{f:Nat→Int}(hi:i<n)(h1:i<k)(h2:k≤n)(h3:∀j,i<j→j<k→f i<f j)(h4:k<n→f k≤f i):uK n f i=k:=by
 obtain⟨e1,e2,e3,e4⟩:=rD (f:=f) hi;rcases anJ (uK n f i) k with h | h | h
 ·have:=e4 (by omega); have:=h3 _ e1 h; omega
 ·exact h
 have:=h4 (by omega); have:=e3 k h1 h; omega
theorem IsTree.between{n:Nat}{f:Nat→Int}(T:IsTree n f){k j:Nat}(hk:k<n)(hj:j<k)(hd:f j=f k-1)(hn:∀m,j<m→m<k→f m≠f k-1):∀m,j<m→m<k→f k≤f m:=by
 have key:∀q m,m+q=k→j<m→f k≤f m:=by
  intro q;induction q with
  | zero=>intro m h1 h2; obtain rfl:m=k:=(by omega); exact Int.le_refl _
  | succ q ih =>
   intro m h1 h2;have h3:=ih (m+1) (by omega) (by omega);have h4:=T.step m (by omega);have h5:=hn m h2 (by omega);omega
 intro m h1 h2;exact key (k-m) m (by omega) h1
theorem IsTree.par_none{n:Nat}{f:Nat→Int}(T:IsTree n f){k:Nat}(hk:k<n):sD f k = -1↔f k=0:=by
 constructor
 ·intro h;have hn:=Gy h;have key:∀q,q≤k→f k≤f (k-q)∨∃m,m<k∧f m=f k-1:=by
   intro q;induction q with
   | zero=>intro _; exact .inl (Int.le_refl _)
   | succ q ih =>
    intro hq;rcases ih (by omega)with h1 | h1
    ·have h2:=T.step (k-(q+1)) (by omega);rw[show k-(q+1)+1=k-q by omega]at h2;by_cases h3:f (k-(q+1))=f k-1
     ·exact .inr ⟨_,by omega,h3⟩
     exact .inl (by omega)
    exact .inr h1
  rcases key k (alf _)with h1 | ⟨m,h1,h2⟩
  ·rw[anl,T.zero (by omega)]at h1;have:=T.nn k hk;omega
  exact absurd h2 (hn m h1)
 intro h;rcases xH f (f k-1) k with h1 | ⟨j,h1⟩
 ·exact h1
 obtain⟨h2,h3,_⟩:=rU h1;have:=T.nn j (by omega);omega
theorem IsTree.aaJ{n:Nat}{f:Nat→Int}(T:IsTree n f){k i:Nat}(hk:k<n):sD f k=(i:Int)↔i<k∧k<uK n f i∧f k=f i+1:=by
 constructor
 ·intro h;obtain⟨h1,h2,h3⟩:=rU h;have hb:=T.between hk h1 h2 h3;have hi:i<n:=by omega
  obtain⟨e1,e2,e3,e4⟩:=rD (f:=f) hi;refine⟨h1,?_,by omega⟩;by_cases h4:k<uK n f i
  ·exact h4
  exfalso;have h5:=e4 (by omega);by_cases h6:uK n f i=k
  ·rw[h6]at h5; omega
  have:=hb _ e1 (by omega); omega
 rintro⟨h1,h2,h3⟩;have hi:i<n:=by omega
 obtain⟨e1,e2,e3,e4⟩:=rD (f:=f) hi;refine Px h1 (by omega) fun m h4 h5=>?_;have:=e3 m h4 (by omega);omega
theorem IsTree.aeG{f:Nat→Int}{k:Nat}{i:Nat}(h:sD f k=(i:Int)):i<k∧f i=f k-1:=⟨(rU h).1,(rU h).2.1⟩
def Bd(f:Nat→Int):Nat→Nat→List Nat
 | 0,_=>[]
 | m+1,k=>(if sD f k<0 then []else Bd f m (sD f k).toNat)++[k]
def GH(f:Nat→Int)(d:Int):Nat→Nat→Nat
 | 0,k=>k
 | m+1,k=>if d<f k then GH f d m (sD f k).toNat else k
theorem IsTree.VD{n:Nat}{f:Nat→Int}(T:IsTree n f){k:Nat}(hk:k<n)(h:0<f k):∃j:Nat,sD f k=j∧j<k∧f j=f k-1:=by
 rcases xH f (f k-1) k with h1 | ⟨j,h1⟩
 ·have:=(T.par_none hk).1 h1; omega
 exact⟨j,h1,IsTree.aeG h1⟩
theorem IsTree.aaK{n:Nat}{f:Nat→Int}(T:IsTree n f):∀(m k:Nat),k<n→f k<m→Bd f m k=(List.range ((f k).toNat+1)).map fun d:Nat=>GH f d (f k).toNat k
 | 0,k,hk,h=>by have:=T.nn k hk; omega
 | m+1,k,hk,h=>by
  unfold Bd
  rcases Int.lt_or_le 0 (f k)with h0 | h0
  ·obtain⟨j,h1,h2,h3⟩:=T.VD hk h0
   rw[h1,ak9 (by omega),anu,T.aaK m j (by omega) (by omega)]
   have e:(f k).toNat=(f j).toNat+1:=by have:=T.nn j (by omega); omega
   rw[e,List.range_succ (n:=(f j).toNat+1),alV,List.map_singleton]
   congr 1
   ·refine List.map_congr_left fun d hd=>?_
    have hd:=amT.1 hd
    rw[show GH f d ((f j).toNat+1) k=GH f d (f j).toNat j from by
     show(if (d:Int)<f k then GH f d (f j).toNat (sD f k).toNat else k)=_
     rw[ale (by omega),h1,anu]]
   ·have hx:GH f (((f j).toNat+1:Nat):Int) ((f j).toNat+1) k=k:=by
     show(if (((f j).toNat+1:Nat):Int)<f k then _ else k)=k
     rw[ak9 (by omega)]
    rw[hx]
  ·have hz:f k=0:=by have:=T.nn k hk; omega
   rw[(T.par_none hk).2 hz,ale (by decide),hz]
   simp[GH]
end
end Go.Proofs.YtfmkkemfhjkajaaGreatDoor
