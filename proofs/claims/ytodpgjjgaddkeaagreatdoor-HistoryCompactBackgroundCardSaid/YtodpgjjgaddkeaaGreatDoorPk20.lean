/- The key of a node: its content with numbers in lowest -/
import Derived.Test.YtodpgjjgaddkeaaGreatDoorE36b
import Derived.Maps.Own
import Derived.Maps.Views
set_option linter.unusedVariables false
set_option linter.unusedSimpArgs false
namespace Go.Proofs.YtodpgjjgaddkeaaGreatDoor
section
variable{K:Nat}
instance avO:DecidableEq Q6:=λP Q=>decidable_of_iff (P.a=Q.a∧P.b=Q.b∧P.c=Q.c∧P.d=Q.d∧P.e=Q.e∧P.f=Q.f) (by
 obtain⟨a,b,c,d,e,f⟩:=P;obtain⟨a',b',c',d',e',f'⟩:=Q;simp)
structure nZ where
 w:Int
 h:Int
 l:List bD
deriving DecidableEq
structure je where
 kind:Int
 color:bD
 p0:jW
 p1:jW
 bT:Int
 stops:List dK
 spread:Int
 img:nZ
 cO:Int
 q:Q6
deriving DecidableEq
structure kJ where
 width:Int
 join:Int
 cap:Int
 fB:Int
 dash:List Int
 phase:Int
deriving DecidableEq
structure aQ where
 id:Int
 kind:Int
 depth:Int
 q:Q6
 clip:List dN
 aS:Int
 dR:UInt8
 blend:Int
 isolated:Bool
 dH:Bool
 path:List dN
 aW:Int
 fill:List je
 style:kJ
 stroke:List je
 img:nZ
 cO:Int
deriving DecidableEq
def dF.key(m:dF):nZ:=⟨m.w,m.h,m.l⟩
def ak.key(p:ak):je:=⟨p.kind,p.color,p.p0,p.p1,p.bT,p.stops,p.spread,p.img.key,p.cO,p.t.q⟩
def aV.key(p:aV):kJ:=⟨p.width,p.join,p.cap,p.fB,p.dash,p.phase⟩
def aj.key(n:aj):aQ:=⟨n.id,n.kind,n.depth,n.t.q,n.clip,n.aS,n.dR,n.blend,n.isolated,n.dH,n.path,n.aW,n.fill.map ak.key,n.style.key,n.stroke.map ak.key,n.img.key,n.cO⟩
theorem DC{a b:UInt8}:(a.toNat:Int)=(b.toNat:Int)↔a=b:=⟨Gv,λh=>by rw[h]⟩
theorem YD{a b:bD}:(a.r=b.r∧a.g=b.g∧a.b=b.b∧a.a=b.a)↔a=b:=by cases a; cases b; simp
theorem akf{a b:jW}:(a.x=b.x∧a.y=b.y)↔a=b:=by cases a; cases b; simp
theorem Oo(m n:dF):m.eq n=decide (m.key=n.key):=by
 rw[aA9]; simp[dF.eq,dF.key]
theorem YE(p q:aV):p.eq q=decide (p.key=q.key):=by
 rw[aA9]; simp only[aV.eq,aV.key,kJ.mk.injEq,az7,az4,az6,and_assoc];constructor
 .rintro⟨h1,h2,h3,h4,h5,h6⟩; exact⟨h1,h2,h3,h4,h6,h5⟩
 rintro⟨h1,h2,h3,h4,h5,h6⟩; exact⟨h1,h2,h3,h4,h6,h5⟩
theorem YF(P Q:Q6):P.same Q=decide (P=Q):=by
 obtain⟨a,b,c,d,e,f⟩:=P;obtain⟨a',b',c',d',e',f'⟩:=Q;rw[aA9]; simp[Q6.same]
theorem ais{P Q:Q6}(hp:Bj P)(hq:Bj Q):P.eq Q=decide (P=Q):=by rw[<-K07 hp hq,YF]
theorem ak.akg{p q:ak}(hp:Bj p.t.q)(hq:Bj q.t.q):p.eq q=decide (p.key=q.key):=by
 rw[aA9];unfold ak.eq;rw[ais hp hq,Oo];simp only[az7,az4,az6,DC,YD,akf,ak.key,je.mk.injEq,and_assoc];constructor
 .rintro⟨h1,h2,h3,h4,h5,h6,h7,h8,h9,h10⟩; exact⟨h1,h2,h3,h4,h5,h8,h6,h9,h7,h10⟩
 rintro⟨h1,h2,h3,h4,h5,h6,h7,h8,h9,h10⟩; exact⟨h1,h2,h3,h4,h5,h7,h9,h6,h8,h10⟩
def agJ(l:List ak):Prop:=∀p∈l,Bj p.t.q
theorem nP:∀{l m:List ak},agJ l->agJ m->bU l m=decide (l.map ak.key=m.map ak.key)
 | [],[],_,_=>by simp[bU]
 | [],y::m,_,_=>by simp[bU]
 | x::l,[],_,_=>by simp[bU]
 | x::l,y::m,hl,hm=>by
  have ih:=nP (l:=l) (m:=m) (λp hp=>hl p (aA4 _ hp)) (λp hp=>hm p (aA4 _ hp))
  have e:=ak.akg (hl x az5) (hm y az5)
  rw[aA9]at ih e |-
  simp only[bU,aAx,Nat.add_right_cancel_iff,List.zip_cons_cons,List.all_cons,aAE,aAp,az7,az6]at ih e |-
  rw[e,<-ih]
  constructor
  .rintro⟨h1,h2,h3⟩; exact⟨h2,h1,h3⟩
  .rintro⟨h1,h2,h3⟩; exact⟨h2,h1,h3⟩
def aj.nrm(n:aj):Prop:=Bj n.t.q∧agJ n.fill∧agJ n.stroke
theorem eG.nrm{w:World}{n:aj}(h:eG K w n):n.nrm:=
 ⟨(bH.toQ h.1.2.2.2.1 h.2.1).nrm,λp hp=>(bH.toQ (h.1.2.2.2.2.2.2.2.2.2.1.2 p hp).2.2.2.2.2.2.2.2.2 (h.2.2.1 p hp)).nrm,λp hp=>(bH.toQ (h.1.2.2.2.2.2.2.2.2.2.2.2.1.2 p hp).2.2.2.2.2.2.2.2.2 (h.2.2.2.1 p hp)).nrm⟩
theorem RX{a b:Bool}:cond a false b=(!a&&b):=by cases a<;>rfl
theorem agK{a b:aj}(ha:a.nrm)(hb:b.nrm):a.eqP b=decide (a.key=b.key):=by
 rw[aA9];unfold aj.eqP;rw[ais ha.1 hb.1,nP ha.2.1 hb.2.1,nP ha.2.2 hb.2.2,Oo,YE];simp only[RX,az7,aBt,aAI,bne_eq_false_iff_eq,aBg,az4,az6,DC,aj.key,aQ.mk.injEq,and_assoc];constructor
 .rintro⟨h1,h2,h3,h4,h5,h6,h7,h8,h9,h10,h11,h12,h13,Ky,h15,h16,h17⟩; exact⟨h1,h2,h3,h11,h12,h4,h5,h6,h7,h8,h13,h9,Ky,h16,h15,h17,h10⟩
 rintro⟨h1,h2,h3,h11,h12,h4,h5,h6,h7,h8,h13,h9,Ky,h16,h15,h17,h10⟩; exact⟨h1,h2,h3,h4,h5,h6,h7,h8,h9,h10,h11,h12,h13,Ky,h15,h16,h17⟩
theorem agL{a b:aj}(ha:a.nrm)(hb:b.nrm):a.eqR b=decide (a.key=b.key):=by
 rw[aA9];unfold aj.eqR;rw[YF,nP ha.2.1 hb.2.1,nP ha.2.2 hb.2.2,Oo,YE];simp only[RX,az7,aBt,aAI,bne_eq_false_iff_eq,aBg,az4,az6,DC,aj.key,aQ.mk.injEq,and_assoc];constructor
 .rintro⟨h1,h2,h3,h11,h4,h9,h10,h5,h6,h7,h8,h12,h13,Ky,h15,h16,h17⟩; exact⟨h1,h2,h3,h11,h12,h4,h5,h6,h7,h8,h13,h9,Ky,h16,h15,h17,h10⟩
 rintro⟨h1,h2,h3,h11,h12,h4,h5,h6,h7,h8,h13,h9,Ky,h16,h15,h17,h10⟩; exact⟨h1,h2,h3,h11,h4,h9,h10,h5,h6,h7,h8,h12,h13,Ky,h15,h16,h17⟩
end
section
theorem aaK{p q:ak}(h:p.key=q.key):p.valid=q.valid:=by
 obtain⟨k,c,p0,p1,r,sva,svc,st,sp,⟨iw,ih,isa,isc,il⟩,sm,t⟩:=p;obtain⟨k',c',p0',p1',r',aq9,ara,st',sp',⟨iw',ih',arb,ard,il'⟩,sm',t'⟩:=q;simp only[ak.key,dF.key,je.mk.injEq,nZ.mk.injEq]at h;obtain⟨rfl,rfl,rfl,rfl,rfl,rfl,rfl,⟨rfl,rfl,rfl⟩,rfl,ht⟩:=h;have hw:∀(b:ak),(ak.without ⟨k,c,p0,p1,r,sva,svc,st,sp,⟨iw,ih,isa,isc,il⟩,sm,t⟩).eq b=(ak.without ⟨k,c,p0,p1,r,aq9,ara,st,sp,⟨iw,ih,arb,ard,il⟩,sm,t'⟩).eq b:=by
  intro b;unfold ak.without;simp only;cases k==1<;>cases k==2<;>cases k==3<;>cases k==4<;>simp only[cond_true,cond_false,ak.adi,ak.only2,ak.adk,ak.adl,ak.adn,ak.eq]<;>rfl
 unfold ak.valid;simp only[hw,ht];rfl
theorem Ap:∀{l m:List ak},l.map ak.key=m.map ak.key->l.all ak.valid=m.all ak.valid
 | [],[],_=>rfl
 | [],_::_,h=>by cases h
 | _::_,[],h=>by cases h
 | x::l,y::m,h=>by
  simp only[aAE,aAp]at h
  rw[List.all_cons,List.all_cons,aaK h.1,Ap h.2]
theorem V7{a b:aj}(h:a.key=b.key):a.checkN=b.checkN:=by
 simp only[aj.key,aV.key,dF.key,aQ.mk.injEq,kJ.mk.injEq,nZ.mk.injEq]at h;obtain⟨h1,h2,h3,h4,h5,h6,h7,h8,h9,h10,h11,h12,h13,⟨s1,s2,s3,s4,s5,s6⟩,h15,⟨i1,i2,i3⟩,h17⟩:=h;have l1:a.fill.length=b.fill.length:=by have:=az0 List.length h13; simpa using this
 have l2:a.stroke.length=b.stroke.length:=by have:=az0 List.length h15; simpa using this
 have hs:∀p:aV,a.style.eq p=b.style.eq p:=λp=>by unfold aV.eq; rw[s1,s2,s3,s4,s5,s6]
 have hi:∀m:dF,a.img.eq m=b.img.eq m:=λm=>by unfold dF.eq; rw[i1,i2,i3]
 have hb:a.bare=b.bare:=by unfold aj.bare; rw[hs,hi,h2,h7,h8,h9,h10,h11,h12,h17,l1,l2]
 have hsv:a.style.valid=b.style.valid:=by unfold aV.valid; rw[s1,s2,s3,s4,s5,s6]
 have hiv:a.img.valid=b.img.valid:=by unfold dF.valid dF.size; rw[i1,i2,i3]
 have hc:a.jT=b.jT:=by unfold aj.jT; rw[hb,h1,h2,h3,h4,h5,h6]
 have hsh:a.sF=b.sF:=by unfold aj.sF; rw[h11,h12,l1,l2,hsv,hs,Ap h13,Ap h15]
 unfold aj.checkN aj.qP;rw[hc,hsh,h2,h8,hiv,h17]
open Classical in
noncomputable def aQ.chk(κ:aQ):Int:=if h:∃n:aj,n.key=κ then h.choose.checkN else 1
theorem lG(n:aj):n.key.chk=n.checkN:=by
 have h:∃m:aj,m.key=n.key:=⟨n,I⟩;unfold aQ.chk;rw[dif_pos h];exact V7 h.choose_spec
theorem qF:∀{l:List (Bool×Int)},(∀p∈l,p.2≠0)->mZ l=0->∀p∈l,p.1=false
 | [],_,_,p,hp=>by cases hp
 | q::l,h,h0,p,hp=>by
  unfold mZ at h0
  split at h0
  .exact absurd h0 (h q az5)
  .rename_i hq
   rcases az2.1 hp with rfl | hp
   .simpa using hq
   .exact qF (λp hp=>h p (aA4 _ hp)) h0 p hp
theorem Kz(n:aj):∀p∈n.jT,p.2≠0:=by
 intro p hp;simp only[aj.jT,az2,aBU,or_false]at hp;rcases hp with rfl | rfl | rfl | rfl | rfl | rfl
 .exact(by decide:(2:Int)≠0)
 .exact(by decide:(6:Int)≠0)
 .exact(by decide:(5:Int)≠0)
 .exact(by decide:(9:Int)≠0)
 .exact(by decide:(10:Int)≠0)
 exact(by decide:(17:Int)≠0)
theorem Ep{n:aj}(h:n.checkN=0):badL n.jT=false∧n.qP=0:=by
 unfold aj.checkN at h;cases hb:badL n.jT
 .rw[hb]at h; exact⟨I,h⟩
 rw[hb,cond_true]at h;have:=qF (Kz n) h;unfold badL at hb;obtain⟨p,hp,hp2⟩:=List.any_eq_true.1 hb;rw[this p hp]at hp2;cases hp2
theorem Cb{n:aj}(h:n.checkN=0):1<=n.kind∧n.kind<=3∧1<=n.id∧n.id<=1073741824∧0<=n.depth∧n.depth<8:=by
 have hb:=(Ep h).1;simp only[badL,aj.jT,List.any_cons,aAI,aAt]at hb;obtain⟨⟨h1,h2⟩,⟨⟨⟨h3,h4⟩,h5⟩,h6⟩,_⟩:=hb;omega
end
section
def wV(f:Nat->Int)(d:Int):Nat->Nat->Nat
 | 0,k=>k
 | m+1,k=>if d<f k then wV f d m (k+1)else k
def KA(n:Nat)(f:Nat->Int)(i:Nat):Nat:=wV f (f i) (n-(i+1)) (i+1)
theorem Io{f:Nat->Int}{d:Int}:∀(m k:Nat),k<=wV f d m k∧wV f d m k<=k+m∧(∀j,k<=j->j<wV f d m k->d<f j)∧(wV f d m k<k+m->f (wV f d m k)<=d)
 | 0,k=>by simp[wV]; intro j h1 h2; omega
 | m+1,k=>by
  unfold wV
  split
  .rename_i h
   obtain⟨h1,h2,h3,h4⟩:=Io (f:=f) (d:=d) m (k+1)
   refine⟨Z,Z,λj hj1 hj2=>?_,λhl=>h4 Z⟩
   by_cases hk:j=k
   .rw[hk]; exact h
   .exact h3 j Z hj2
  .rename_i h
   exact⟨azS _,Z,λj h1 h2=>by omega,λ_=>by omega⟩
variable{i:Nat}{f:Nat->Int}{id:Int}
theorem aaL{n:Nat}(hi:i<n):i<KA n f i∧KA n f i<=n∧(∀j,i<j->j<KA n f i->f i<f j)∧(KA n f i<n->f (KA n f i)<=f i):=by
 obtain⟨h1,h2,h3,h4⟩:=Io (f:=f) (d:=f i) (n-(i+1)) (i+1);unfold KA;exact⟨Z,Z,λj hj=>h3 j Z,λh=>h4 Z⟩
theorem YG{n k:Nat}(hi:i<n)(h1:i<k)(h2:k<=n)(h3:∀j,i<j->j<k->f i<f j)(h4:k<n->f k<=f i):KA n f i=k:=by
 obtain⟨e1,e2,e3,e4⟩:=aaL (f:=f) hi;rcases aCq (KA n f i) k with h | h | h
 .have:=e4 Z; have:=h3 _ e1 h; omega
 .exact h
 have:=h4 Z; have:=e3 k h1 h; omega
structure aX where
 w:Int
 h:Int
 bg:bD
 ns:List aQ
deriving DecidableEq
structure bF where
 kind:Int
 id:Int
 index:Int
 depth:Int
 node:aQ
 color:bD
deriving DecidableEq
def aX.zero:aX:=⟨0,0,bD.none,[]⟩
def aQ.zero:aQ:=bM.key
def Cc(l:List aQ)(k:Nat):Int:=((l[k]?).map aQ.depth).getD 0
def jM(l:List aQ)(id:Int):Option Nat:=l.findIdx? λκ=>κ.id==id
def wW(l:List aQ)(id:Int):Int:=match jM l id with | some i=>i | none => -1
def Es(pre:List aQ):Int:=match pre.getLast? with | none=>0 | some p=>if p.kind=1 then p.depth+1 else p.depth
noncomputable def jU(pre:List aQ)(x:aQ):Int:=
 if x.chk≠0 then x.chk else if pre.any (λκ=>κ.id==x.id)then 7 else if x.depth<=Es pre then 0 else 17
noncomputable def jV(pre:List aQ):List aQ->Int×Int
 | []=>(0,0)
 | x::r=>if jU pre x=0 then jV (pre++[x]) r else (jU pre x,pre.length)
noncomputable def aX.chk(s:aX):Int×Int:=
 if s.w<1∨256<s.w∨s.h<1∨256<s.h then (6,0)else if 64<s.ns.length then (5,64)else jV [] s.ns
noncomputable def aX.valid(s:aX):Bool:=s.chk.1==0
def Ce(pre:List aQ):List aQ->Prop
 | []=>True
 | x::r=>jU pre x=0∧Ce (pre++[x]) r
abbrev VL (l:List aQ):Prop:=Ce [] l
theorem Ci:∀{l pre:List aQ},(jV pre l).1=0↔Ce pre l
 | [],pre=>by simp[jV,Ce]
 | x::r,pre=>by
  unfold jV Ce
  split
  .rename_i h; rw[Ci]; simp[h]
  .rename_i h; simp[h]
theorem Ce.chk:∀{l pre:List aQ},Ce pre l->jV pre l=(0,0)
 | [],pre,_=>rfl
 | x::r,pre,h=>by unfold jV; rw[azQ h.1]; exact h.2.chk
theorem aX.kE{s:aX}:s.valid=true↔(1<=s.w∧s.w<=256∧1<=s.h∧s.h<=256)∧s.ns.length<=64∧VL s.ns:=by
 unfold aX.valid aX.chk;rw[az4];split
 .rename_i h; constructor
  .intro h2; cases h2
  rintro⟨h2,_⟩; omega
 split
 .constructor
  .intro h2; cases h2
  rintro⟨_,h2,_⟩; omega
 rw[Ci];constructor
 .intro h2; exact⟨Z,Z,h2⟩
 rintro⟨_,_,h2⟩; exact h2
theorem Et{pre:List aQ}{x:aQ}:jU pre x=0↔x.chk=0∧(∀κ∈pre,κ.id≠x.id)∧x.depth<=Es pre:=by
 unfold jU;split
 .rename_i h; exact⟨λh2=>absurd h2 h,λh2=>absurd h2.1 h⟩
 rename_i h;split
 .rename_i h2;obtain⟨κ,h3,h4⟩:=List.any_eq_true.1 h2;exact⟨λh5=>absurd h5 O,λh5=>absurd (by simpa using h4) (h5.2.1 κ h3)⟩
 rename_i h2;have h3:∀κ∈pre,κ.id≠x.id:=λκ hκ he=>h2 (List.any_eq_true.2 ⟨κ,hκ,by simpa using he⟩);split
 .rename_i h4; exact⟨λ_=>⟨by simpa using h,h3,h4⟩,λ_=>rfl⟩
 rename_i h4; exact⟨λh5=>absurd h5 O,λh5=>absurd h5.2.2 h4⟩
theorem LH:∀{l pre:List aQ},Ce pre l↔∀a x b,l=a++x::b->jU (pre++a) x=0
 | [],pre=>⟨λ_ a x b h=>by simp at h,λ_=>trivial⟩
 | y::r,pre=>by
  unfold Ce
  rw[LH (l:=r)]
  constructor
  .rintro⟨h1,h2⟩ a x b h
   cases a with
   | nil =>
    simp only[aAR,aAp]at h
    rw[aAW,<-h.1]; exact h1
   | cons z a =>
    simp only[aBe,aAp]at h
    rw[h.1]at h2
    rw[show pre++z::a=(pre++[z])++a by simp]
    exact h2 a x b h.2
  .intro h
   refine⟨by simpa using h [] y r I,λa x b e=>?_⟩
   rw[show(pre++[y])++a=pre++y::a by simp]
   exact h (y::a) x b (by rw[e]; rfl)
theorem Oq{l:List aQ}:VL l↔(∀x∈l,x.chk=0)∧(l.map aQ.id).Nodup∧∀a x b,l=a++x::b->x.depth<=Es a:=by
 unfold VL;rw[LH];simp only[aAR,Et];constructor
 .intro h;refine⟨λx hx=>?_,?_,λa x b e=>(h a x b e).2.2⟩
  .obtain⟨a,b,e⟩:=List.append_of_mem hx;exact(h a x b e).1
  rw[List.nodup_iff_pairwise_ne];rw[List.pairwise_map];have key:∀(l pre:List aQ),(∀a x b,l=a++x::b->∀κ∈pre++a,κ.id≠x.id)->List.Pairwise (λa b:aQ=>a.id≠b.id) l:=by
   intro l;induction l with
   | nil=>intro _ _; exact List.Pairwise.nil
   | cons y r ih =>
    intro pre h;refine List.Pairwise.cons (λz hz=>?_) (ih (pre++[y]) λa x b e κ hκ=>h (y::a) x b (by rw[e]; rfl) κ (by simpa using hκ));obtain⟨a,b,e⟩:=List.append_of_mem hz;exact h (y::a) z b (by rw[e]; rfl) y Y
  exact key l [] λa x b e κ hκ=>(h a x b e).2.1 κ (by simpa using hκ)
 rintro⟨h1,h2,h3⟩ a x b e;refine⟨h1 x (by rw[e]; simp),λκ hκ he=>?_,h3 a x b e⟩;rw[e,aAL,aAE,aBn]at h2;exact h2.2.2 κ.id (aAi.2 ⟨κ,hκ,I⟩) x.id az5 he
theorem YH{l:List aQ}{k:Nat}(h:k<l.length):Cc l k=l[k].depth:=by simp[Cc,List.getElem?_eq_getElem h]
theorem aX.aaM{s:aX}(h:s.valid=true):s.chk=(0,0):=by
 obtain⟨h1,h2,h3⟩:=aX.kE.1 h;unfold aX.chk;rw[azP Z,azP Z];exact h3.chk
theorem Aq{l:List aQ}(h:jM l id=some i):∃hi:i<l.length,l[i].id=id:=by
 unfold jM at h;obtain⟨h1,h2,_⟩:=List.findIdx?_eq_some_iff_getElem.1 h;exact⟨h1,by simpa using h2⟩
theorem adP{l:List aQ}(hn:(l.map aQ.id).Nodup)(hi:i<l.length):jM l l[i].id=some i:=by
 unfold jM;rw[List.findIdx?_eq_some_iff_getElem];refine⟨hi,by simp,λj hj=>?_⟩;have hj':j<l.length:=Z
 simp only[az4];intro he;rw[List.nodup_iff_pairwise_ne]at hn;have:=List.pairwise_iff_getElem.1 hn j i (by simpa using hj') (by simpa using hi) hj;rw[List.getElem_map,List.getElem_map]at this;exact this he
theorem V8{l:List aQ}:jM l id=none↔∀κ∈l,κ.id≠id:=by
 unfold jM;rw[List.findIdx?_eq_none_iff];simp
def yT(l:List aQ)(i:Nat):Nat:=i+1+((l.drop (i+1)).takeWhile λκ=>decide (Cc l i<κ.depth)).length
theorem agM{l:List aQ}(hi:i<l.length):i+1<=yT l i∧yT l i<=l.length:=by
 unfold yT;have:=(List.takeWhile_sublist (l:=l.drop (i+1)) λκ:aQ=>decide (Cc l i<κ.depth)).length_le;rw[aBT]at this;omega
theorem RY(l:List aQ)(d:Int):∀m k:Nat,m+k=l.length->wV (Cc l) d m k=k+((l.drop k).takeWhile λκ=>decide (d<κ.depth)).length
 | 0,k,h=>by rw[aA7 Z]; rfl
 | m+1,k,h=>by
  have hk:k<l.length:=Z
  unfold wV
  rw[YH hk,<-List.getElem_cons_drop hk,List.takeWhile_cons]
  split
  .rename_i hd
   rw[RY l d m (k+1) Z,azQ (by simpa using hd),aAx]; omega
  .rename_i hd
   rw[azP (by simpa using hd)]; rfl
theorem RZ{l:List aQ}(hi:i<l.length):yT l i=KA l.length (Cc l) i:=by
 unfold yT KA;rw[RY l _ _ _ Z]
def bF.named(e:bF):Bool:=
 if e.kind=1 then e.id==0&&(e.depth==0&&e.color==bD.none)
 else if e.kind=2 then e.index==0&&(e.depth==0&&(e.node==aQ.zero&&e.color==bD.none))
 else if e.kind=3 then e.node==aQ.zero&&e.color==bD.none
 else if e.kind=4 then e.id==0&&(e.index==0&&(e.depth==0&&e.color==bD.none))
 else if e.kind=5 then e.id==0&&(e.index==0&&(e.depth==0&&e.node==aQ.zero))
 else false
def agN(l:List aQ)(at':Nat)(more:List aQ):List aQ:=l.take at'++more++l.drop at'
def Si(l:List aQ)(i j:Nat):List aQ:=l.take i++l.drop j
def am9(l:List aQ)(i j:Nat):List aQ:=(l.drop i).take (j-i)
def aQ.arf(n:aQ)(root to:Int):aQ:={n with depth:=if to<0∨8<to then -1 else n.depth-root+to}
def iI(l:List aQ)(e:bF):Except Int (List aQ):=
 if e.kind=1 then (if e.index<0∨(l.length:Int)<e.index then .error 6 else .ok (agN l e.index.toNat [e.node]))
 else if e.kind=2 then (match jM l e.id with | none => .error 8 | some i => .ok (Si l i (yT l i)))
 else if e.kind=3 then (match jM l e.id with
  | none => .error 8
  | some i=>if e.index<0∨((Si l i (yT l i)).length:Int)<e.index then .error 6
   else .ok (agN (Si l i (yT l i)) e.index.toNat ((am9 l i (yT l i)).map λn=>n.arf (Cc l i) e.depth)))
 else if e.kind=4 then (match jM l e.node.id with
  | none => .error 8
  | some i=>if e.node.depth≠Cc l i then .error 2 else .ok (l.set i e.node))
 else .ok l
def aX.with'(s:aX)(e:bF)(l:List aQ):aX:=⟨s.w,s.h,if e.kind=5 then e.color else s.bg,l⟩
noncomputable def dA(s:aX)(e:bF):aX×Int:=
 if s.valid=false then (.zero,18)else if e.named=false then (.zero,2)else
 match iI s.ns e with
 | .error n=>(.zero,n)
 | .ok l=>if (s.with' e l).chk.1=0 then (s.with' e l,0)else (.zero,(s.with' e l).chk.1)
theorem yh{s t:aX}{e:bF}(h:dA s e=(t,0)):s.valid=true∧e.named=true∧∃l,iI s.ns e = .ok l∧t=s.with' e l∧t.valid=true:=by
 unfold dA at h;split at h
 .simp at h
 rename_i h1;split at h
 .simp at h
 rename_i h2;refine⟨by simpa using h1,by simpa using h2,?_⟩;cases hn:iI s.ns e with
 | error n =>
  rw[hn]at h;simp only[azW]at h;exfalso;have h0:=h.2;subst h0;unfold iI at hn;repeat' split at hn
  all_goals first | (simp only[aBF]at hn; omega) | cases hn
 | ok l =>
  rw[hn]at h;simp only at h;split at h
  .rename_i h3;simp only[azW,and_true]at h;exact⟨l,I,h.symm,by rw[<-h]; unfold aX.valid; simpa using h3⟩
  rename_i h3;simp only[azW]at h;exact absurd h.2 h3
theorem yj{s:aX}{e:bF}{l:List aQ}(h1:s.valid=true)(h2:e.named=true)(h3:iI s.ns e = .ok l)(h4:(s.with' e l).valid=true):dA s e=(s.with' e l,0):=by
 unfold dA;rw[azP (by simp[h1]),azP (by simp[h2]),h3];simp only;rw[azQ (by rw[aX.aaM h4])]
def bF.remove(id:Int):bF:=⟨2,id,0,0,.zero,.none⟩
theorem V9{pre:List aQ}{x:aQ}(h:x.chk≠0):jU pre x=x.chk:=by unfold jU; rw[azQ h]
def aQ.moved(n:aQ)(root to:Int):aQ:={n with depth:=IntKind.i64.wrap (n.depth+IntKind.i64.wrap (to-root))}
def mO(l:List aQ)(e:bF):Except Int (List aQ):=
 if e.kind=3 then (match jM l e.id with
  | none => .error 8
  | some i=>if e.index<0∨((Si l i (yT l i)).length:Int)<e.index then .error 6
   else .ok (agN (Si l i (yT l i)) e.index.toNat ((am9 l i (yT l i)).map λn=>n.moved (Cc l i) e.depth)))
 else iI l e
noncomputable def Ot(s:aX)(e:bF):aX×Int:=
 if s.valid=false then (.zero,18)else if e.named=false then (.zero,2)else
 match mO s.ns e with
 | .error n=>(.zero,n)
 | .ok l=>if (s.with' e l).chk.1=0 then (s.with' e l,0)else (.zero,(s.with' e l).chk.1)
end
section
open Go.RowKit
variable{α:Type}{K:Nat}
structure aH where
 w:Int
 h:Int
 bg:bD
 nsa:Option Addr
 nsc:Nat
 ns:List aj
def aH.s(s:aH):Value := .slice s.nsa s.ns.length s.nsc
def aH.cells(s:aH):List Value:=[.i s.w,.i s.h]++s.bg.cells++[s.s]
def aH.v(s:aH):Value := .agg s.cells.toArray
def aH.key(s:aH):aX:=⟨s.w,s.h,s.bg,s.ns.map aj.key⟩
abbrev Cj (K:Nat)(w:World)(v:Value)(l:List aj):Prop:=aJ 47 aj.cells w v l∧∀n∈l,eG K w n
def dL(K:Nat)(w:World)(s:aH):Prop:=I64 s.w∧I64 s.h∧Cj K w s.s s.ns
structure aP where
 kind:Int
 id:Int
 index:Int
 depth:Int
 node:aj
 color:bD
def aP.cells(e:aP):List Value:=[.i e.kind,.i e.id,.i e.index,.i e.depth]++e.node.cells++e.color.cells
def aP.v(e:aP):Value := .agg e.cells.toArray
def aP.key(e:aP):bF:=⟨e.kind,e.id,e.index,e.depth,e.node.key,e.color⟩
def iy(K:Nat)(w:World)(e:aP):Prop:=I64 e.kind∧I64 e.id∧I64 e.index∧I64 e.depth∧eG K w e.node
theorem Cj.below{w w':World}{v:Value}{l:List aj}(h:Cj K w v l)(hb:Ext w w'):Cj K w' v l:=⟨h.1.below hb,λn hn=>(h.2 n hn).below hb⟩
theorem dL.below{w w':World}{s:aH}(h:dL K w s)(hb:Ext w w'):dL K w' s:=⟨h.1,h.2.1,h.2.2.below hb⟩
theorem iy.below{w w':World}{e:aP}(h:iy K w e)(hb:Ext w w'):iy K w' e:=⟨h.1,h.2.1,h.2.2.1,h.2.2.2.1,h.2.2.2.2.below hb⟩
def aH.zero:aH:=⟨0,0,.none,none,0,[]⟩
theorem Ip(w:World):dL K w .zero:=⟨by decide,by decide,⟨dI _ _ _,λn hn=>by cases hn⟩⟩
theorem Wh(pre:List aQ)(x:aQ):Es (pre++[x])=if x.kind=1 then x.depth+1 else x.depth:=by
 unfold Es;rw[List.getLast?_concat]
end
end Go.Proofs.YtodpgjjgaddkeaaGreatDoor
section
namespace Go.Proofs.YtodpgjjgaddkeaaGreatDoor
open Go.Maps
variable{P:Program}{k e t:TypeId}{b:Nat}{ids:List Int}{w w':World}
def lW(P:Program)(k e:TypeId)(w:World)(b:Nat)(ids:List Int):Prop:=
 ∃D:DataW Unit,w.ownsMap P k (plainElem P e) b ids.length D∧IsMap D∧∀x:Int,I64 x->D.atKey (.int .i64 x) (.lit (.bool false)) = .lit (.bool (ids.any (· == x)))
theorem Wi(P:Program)(k e:TypeId)(w:World):lW P k e (w.alloc (.map #[] 0)) w.heap.size []:=
 ⟨.map [],World.ownsMap_made w P k _,isMap_empty,λx _=>rfl⟩
theorem wf_i64{x:Int}(h:I64 x):(Lit.int .i64 x).wf=true:=by
 obtain⟨h1,h2⟩:=h;have e1:IntKind.i64.min = -9223372036854775808:=by decide
 have e2:IntKind.i64.max=9223372036854775807:=by decide
 simp[Lit.wf,e1,e2];omega
theorem Ar{H:Type}(he:P.underlying e=some .bool){v:Value}{z:DataW H×List MemPlace}(h:plainElem P e v=some z):∃c,v = .bool c∧z=(.lit (.bool c),[]):=by
 unfold plainElem at h;rw[he]at h;cases v<;>simp at h;exact⟨_,I,h.symm⟩
theorem lW.lt(h:lW P k e w b ids):b<w.heap.size:=by obtain⟨D,h,_⟩:=h; exact h.lt
theorem lW.kept(h:lW P k e w b ids)(hb:∀i,i=b->w'.heap[i]?=w.heap[i]?):lW P k e w' b ids:=by
 obtain⟨D,⟨es,clock,hB,F,hs,hD⟩,h2,h3⟩:=h;exact⟨D,⟨es,clock,(hb b I).trans hB,F,hs,hD⟩,h2,h3⟩
theorem lW.lookup(h:lW P k e w b ids)(hk:P.underlying k=some (.int .i64))(he:P.underlying e=some .bool)(ht:P.underlying t=some (.map k e))(hz:(zeroValue e).run P w = .ok (.z) w){x:Int}(hx:I64 x) :
  (Instr.lookup t (.map (some b)) (.i x) false).run P w = .ok (.bool (ids.any (· == x))) w:=by
 obtain⟨D,h1,h2,h3⟩:=h;obtain⟨v,ps,hrun,hv⟩:=h1.lookup (int_keyed hk) ht hz (plainElem_bool he false) (keyOf_int_mk hk (wf_i64 hx));obtain⟨c,rfl,hc⟩:=Ar he hv;simp only[azW]at hc;rw[h3 x hx]at hc;obtain⟨hc,-⟩:=hc;cases hc;exact hrun
theorem lW.update(h:lW P k e w b ids)(hk:P.underlying k=some (.int .i64))(he:P.underlying e=some .bool)(ht:P.underlying t=some (.map k e))(hn:ids.length<maxLen){x:Int}(hx:I64 x) :
  ∃w',(Instr.mapUpdate t (.map (some b)) (.i x) (.bool true)).run P w = .ok () w'∧lW P k e w' b (ids++[x])∧w.grownBy w' (some b):=by
 obtain⟨D,h1,h2,h3⟩:=h;obtain⟨w',hrun,ho,hg⟩:=h1.update (int_keyed hk) ht hn (keyOf_int_mk hk (wf_i64 hx)) (plainElem_bool he true);refine⟨w',hrun,⟨D.put (.int .i64 x) (.lit (.bool true)),?_,h2.put _ _,λy hy=>?_⟩,hg⟩
 .rw[azU,aCn]; exact ho
 rw[List.any_append,List.any_cons,List.any_nil,Bool.or_false];by_cases hxy:x=y
 .subst hxy;rw[atKey_put_same h2 (k := .int .i64 x) (by first | trivial | simp[WideAt.IsKeyLit])];simp
 rw[atKey_put_other (by simpa using λh=>hxy h.symm),h3 y hy];simp[hxy]
end Go.Proofs.YtodpgjjgaddkeaaGreatDoor
namespace Go.Sx
open Go.Proofs.YtodpgjjgaddkeaaGreatDoor Go.RowKit Go.Rel
variable{P:Program}{k e:TypeId}{b:Nat}{ids:List Int}{w w':World}
variable{ops:Array Oper}{Q:Exit->Act->World->Prop}{w0:World}{a:Act}{os:List Oper}{n:Nat}{l:List (Nat×Value)}{bl:List (Nat×List Value)}{vs:List fD}
def Sj(os:List Oper):Option Nat:=match os with
 | o::_=>(match o.guard,o.dst,o.op with
  | none,some d,.makeMap _ none=>some d
  | _,_,_=>none)
 | []=>none
def lookOf(os:List Oper)(l:List (Nat×Value)):Option (TypeId×Nat×Int×Nat):=match os with
 | o::_=>(match o.guard,o.dst,o.op with
  | none,some d,.lookup t x i false=>(match rd (lift l) [] x,rd (lift l) [] i with
   | some (.map (some b)),some (.i z)=>some (t,b,z,d)
   | _,_=>none)
  | _,_,_=>none)
 | []=>none
def ait(os:List Oper)(l:List (Nat×Value)):Option (TypeId×Nat×Int):=match os with
 | o::_=>(match o.guard,o.dst,o.op with
  | none,none,.mapUpdate t x i v=>(match rd (lift l) [] x,rd (lift l) [] i,rd (lift l) [] v with
   | some (.map (some b)),some (.i z),some (.bool true)=>some (t,b,z)
   | _,_,_=>none)
  | _,_,_=>none)
 | []=>none
theorem arh(S:St w0 a w n l bl vs)(d:Nat)(next:∀a' w' b,Ext w w'->b=w.heap.size->(∀k e,lW P k e w' b [])->St w0 a' w' n ((d,.map (some b))::l) bl vs->wpList P ops Q (os.drop 1) a' w')
  (hx:Sj os=some d:=by kernel_rfl) (hd:vI n (some d)=true:=by rfl):wpList P ops Q os a w:=by
 unfold Sj at hx;split at hx
 .rename_i o os';split at hx
  .rename_i d' t hg hdst hop;cases hx;have hrun:(execOp a.eval o).run P w = .ok (.value (.map (some w.heap.size))) (w.alloc (.map #[] 0)):=by
    unfold execOp;simp only[hop];rfl
   unfold wpList;rw[azQ (by simp[Region.wanted,hg])];left;unfold Oper.wp;rw[hrun];simp only[Oper.upon];have hE:Ext w (w.alloc (.map #[] 0)):=aF _ _;have S1:=S.grow hE;rw[hdst];exact next _ _ w.heap.size hE I (λk e=>Wi P k e w) ⟨uP S.s hd _,S1.E,S1.own,S1.apart,S1.mem⟩
  cases hx
 cases hx
theorem ana(S:St w0 a w n l bl vs)(d:Nat){t:TypeId}{z:Int}(h:lW P k e w b ids)(hk:P.underlying k=some (.int .i64))(he:P.underlying e=some .bool)(ht:P.underlying t=some (.map k e))(hz:(zeroValue e).run P w = .ok (.z) w)(hi:I64 z)
  (next:∀a',St w0 a' w n ((d,.bool (ids.any (· == z)))::l) bl vs->wpList P ops Q (os.drop 1) a' w)
  (hx:lookOf os l=some (t,b,z,d):=by kernel_rfl) (hd:vI n (some d)=true:=by rfl):wpList P ops Q os a w:=by
 unfold lookOf at hx;split at hx
 .rename_i o os';split at hx
  .rename_i d' t' x i hg hdst hop;split at hx
   .rename_i b' z' hxx hii;cases hx;have hR:=iq (bZ S.s) o;have hxv:=gX (Std.act a) (hR x (by rw[hop]; simp[Op.operands])) (p:=[]) I hxx;have hyv:=gX (Std.act a) (hR i (by rw[hop]; simp[Op.operands])) (p:=[]) I hii;have hrun:(execOp a.eval o).run P w = .ok (.value (.bool (ids.any (· == z)))) w:=by
     unfold execOp;simp only[hop,hxv,hyv,aAS,h.lookup hk he ht hz hi];rfl
    unfold wpList;rw[azQ (by simp[Region.wanted,hg])];left;unfold Oper.wp;rw[hrun];simp only[Oper.upon];rw[hdst];exact next _ (S.act (uP S.s hd _))
   cases hx
  cases hx
 cases hx
theorem St.ari(S:St w0 a w n l bl vs)(h:lW P k e w b ids)(hb:w0.heap.size<=b)(hg:w.grownBy w' (some b))(h1:bl.all (λp => !p.2.isEmpty)=true)(h2:vs.all (λm => !m.2.2.isEmpty)=true):St w0 a w' n l bl vs:=by
 have hm:∀i,w.cell? ⟨b,i,none⟩=none:=by
  obtain⟨D,⟨es,clock,hB,_⟩,_⟩:=h;intro i;simp[World.cell?,hB]
 have hcell:∀c i,c<w.heap.size->c≠b->w'.cell? ⟨c,i,none⟩=w.cell? ⟨c,i,none⟩:=by
  intro c i hc hne;simp only[World.cell?];rw[hg.block c hc (λe=>hne (az1 e))]
 have anb:∀c i,c<w.heap.size->c≠b->w'.frozen? ⟨c,i,none⟩=w.frozen? ⟨c,i,none⟩:=by
  intro c i hc hne;simp only[World.frozen?];rw[hg.block c hc (λe=>hne (az1 e))]
 have hE:Ext w0 w':=S.E.grown hg S.E.size (λk e=>by cases e; exact hb);refine⟨S.s,hE,λp hp=>?_,S.apart,λm hmm=>?_⟩
 .obtain⟨⟨q1,q2,q3⟩,q4⟩:=S.own p hp;have hne:p.1≠b:=by
   intro e;have h3:=aAr.1 h1 p hp;have h4:=q2 0;rw[e,hm 0]at h4;cases hA:p.2 with
   | nil=>rw[hA]at h3; cases h3
   | cons x A=>rw[hA]at h4; simp at h4
  exact⟨⟨aAk q1 hg.size,λi=>by rw[hcell _ _ q1 hne]; exact q2 i,λi=>by rw[anb _ _ q1 hne]; exact q3 i⟩,q4⟩
 obtain⟨⟨q1,q2⟩,q3⟩:=S.mem m hmm;have hne:m.1≠b:=by
  intro e;have h3:=aAr.1 h2 m hmm;cases hA:m.2.2 with
  | nil=>rw[hA]at h3; cases h3
  | cons x A =>
   have h4:=q2 0 x (by rw[hA]; rfl);rw[e,hm]at h4;cases h4
 exact⟨⟨aAk q1 hg.size,λi v hi=>by rw[hcell _ _ q1 hne]; exact q2 i v hi⟩,q3⟩
theorem arj(S:St w0 a w n l bl vs){t:TypeId}{z:Int}(h:lW P k e w b ids)(hb:w0.heap.size<=b)(hk:P.underlying k=some (.int .i64))(he:P.underlying e=some .bool)(ht:P.underlying t=some (.map k e))(hn:ids.length<maxLen)(hi:I64 z)
  (next:∀w',lW P k e w' b (ids++[z])->w.grownBy w' (some b)->St w0 a w' n l bl vs->wpList P ops Q (os.drop 1) a w')
  (hx:ait os l=some (t,b,z):=by kernel_rfl) (h1:bl.all (λp => !p.2.isEmpty)=true:=by kernel_rfl) (h2:vs.all (λm => !m.2.2.isEmpty)=true:=by kernel_rfl):wpList P ops Q os a w:=by
 unfold ait at hx;split at hx
 .rename_i o os';split at hx
  .rename_i t' x i v hg hdst hop;split at hx
   .rename_i b' z' hxx hii hvv;cases hx;have hR:=iq (bZ S.s) o;have hxv:=gX (Std.act a) (hR x (by rw[hop]; simp[Op.operands])) (p:=[]) I hxx;have hyv:=gX (Std.act a) (hR i (by rw[hop]; simp[Op.operands])) (p:=[]) I hii;have hzv:=gX (Std.act a) (hR v (by rw[hop]; simp[Op.operands])) (p:=[]) I hvv;obtain⟨w',hrun,h',hg'⟩:=h.update hk he ht hn hi;have hrun:(execOp a.eval o).run P w = .ok .skip w':=by
     unfold execOp;simp only[hop,hxv,hyv,hzv,aAS,hrun];rfl
    unfold wpList;rw[azQ (by simp[Region.wanted,hg])];left;unfold Oper.wp;rw[hrun];simp only[Oper.upon];rw[hdst];exact next _ h' hg' (S.ari h hb hg' h1 h2)
   cases hx
  cases hx
 cases hx
theorem Sl(h:lW P k e w b ids):On (λi=>i=b) (λw=>lW P k e w b ids) w:=λw' hs hb=>h.kept λi hi=>hb i (by rw[hi]; exact h.lt) hi
