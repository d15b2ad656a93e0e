/- The key of a node: its content -/
import Derived.Test.YtodpgjjgaddkeaaGreatDoorPk12
import Derived.Maps.Own
import Derived.Maps.Views
set_option maxRecDepth 100000
set_option maxHeartbeats 9999999
open Go renaming World->Á,Value->À,Calls->Ä,Program->Ø,wpList->Ð,TypeId->á,execOp->Ù
open Go.Proofs.Tryz
set_option linter.unusedVariables false
set_option linter.unusedSimpArgs false
namespace Go.Proofs.Pv
section
variable{K:Nat}
instance atE:DecidableEq Q6:=λP Q=>decidable_of_iff (P.a=Q.a∧P.b=Q.b∧P.c=Q.c∧P.d=Q.d∧P.e=Q.e∧P.f=Q.f) (by
 obtain⟨a,b,c,d,e,f⟩:=P;obtain⟨a',b',c',d',e',f'⟩:=Q;simp)
structure Cj where
 w:Int
 h:Int
 l:List bQ
deriving DecidableEq
structure sV where
 kind:Int
 color:bQ
 p0:jP
 p1:jP
 bG:Int
 stops:List fH
 spread:Int
 img:Cj
 dw:Int
 q:Q6
deriving DecidableEq
structure sW where
 width:Int
 join:Int
 cap:Int
 eu:Int
 dash:List Int
 phase:Int
deriving DecidableEq
structure aN where
 id:Int
 kind:Int
 depth:Int
 q:Q6
 clip:List dQ
 aJ:Int
 dP:UInt8
 blend:Int
 isolated:Bool
 cZ:Bool
 path:List dQ
 aW:Int
 fill:List sV
 style:sW
 stroke:List sV
 img:Cj
 dw:Int
deriving DecidableEq
def dA.key(m:dA):Cj:=⟨m.w,m.h,m.l⟩
def aj.key(p:aj):sV:=⟨p.kind,p.color,p.p0,p.p1,p.bG,p.stops,p.spread,p.img.key,p.dw,p.t.q⟩
def aY.key(p:aY):sW:=⟨p.width,p.join,p.cap,p.eu,p.dash,p.phase⟩
def ah.key(n:ah):aN:=⟨n.id,n.kind,n.depth,n.t.q,n.clip,n.aJ,n.dP,n.blend,n.isolated,n.cZ,n.path,n.aW,n.fill.map aj.key,n.style.key,n.stroke.map aj.key,n.img.key,n.dw⟩
abbrev Oo{a b:UInt8}:(a.toNat:Int)=(b.toNat:Int)↔a=b:=⟨Ik,λh=>by rw[h]⟩
abbrev YG{a b:bQ}:(a.r=b.r∧a.g=b.g∧a.b=b.b∧a.a=b.a)↔a=b:=by cases a; cases b; simp
abbrev aj2{a b:jP}:(a.x=b.x∧a.y=b.y)↔a=b:=by cases a; cases b; simp
abbrev Oq(m n:dA):m.eq n=decide (m.key=n.key):=by
 rw[ĩ]; simp[dA.eq,dA.key]
abbrev YH(p q:aY):p.eq q=decide (p.key=q.key):=by
 rw[ĩ]; simp only[aY.eq,aY.key,sW.mk.injEq,æ,Û,Ý,and_assoc];constructor
 .rintro⟨h1,h2,h3,h4,h5,h6⟩; exact⟨h1,h2,h3,h4,h6,h5⟩
 rintro⟨h1,h2,h3,h4,h5,h6⟩; exact⟨h1,h2,h3,h4,h6,h5⟩
abbrev YI(P Q:Q6):P.same Q=decide (P=Q):=by
 obtain⟨a,b,c,d,e,f⟩:=P;obtain⟨a',b',c',d',e',f'⟩:=Q;rw[ĩ]; simp[Q6.same]
abbrev aiZ{P Q:Q6}(hp:wW P)(hq:wW Q):P.eq Q=decide (P=Q):=by rw[<-K02 hp hq,YI]
abbrev aj.aj3{p q:aj}(hp:wW p.t.q)(hq:wW q.t.q):p.eq q=decide (p.key=q.key):=by
 rw[ĩ];unfold aj.eq;rw[aiZ hp hq,Oq];simp only[æ,Û,Ý,Oo,YG,aj2,aj.key,sV.mk.injEq,and_assoc];constructor
 .rintro⟨h1,h2,h3,h4,h5,h6,h7,h8,h9,h10⟩; exact⟨h1,h2,h3,h4,h5,h8,h6,h9,h7,h10⟩
 rintro⟨h1,h2,h3,h4,h5,h6,h7,h8,h9,h10⟩; exact⟨h1,h2,h3,h4,h5,h7,h9,h6,h8,h10⟩
def ag5(l:List aj):Prop:=∀p∈l,wW p.t.q
theorem oq:∀{l m:List aj},ag5 l->ag5 m->bW l m=decide (l.map aj.key=m.map aj.key)
 | [],[],_,_=>by simp[bW]
 | [],y::m,_,_=>by simp[bW]
 | x::l,[],_,_=>by simp[bW]
 | x::l,y::m,hl,hm=>by
  have ih:=oq (l:=l) (m:=m) (λp hp=>hl p (Ŋ _ hp)) (λp hp=>hm p (Ŋ _ hp))
  have e:=aj.aj3 (hl x ë) (hm y ë)
  rw[ĩ]at ih e |-
  simp only[bW,Ĺ,Nat.add_right_cancel_iff,List.zip_cons_cons,ay7,Ē,ģ,æ,Ý]at ih e |-
  rw[e,<-ih]
  constructor
  .rintro⟨h1,h2,h3⟩; exact⟨h2,h1,h3⟩
  .rintro⟨h1,h2,h3⟩; exact⟨h2,h1,h3⟩
def ah.nrm(n:ah):Prop:=wW n.t.q∧ag5 n.fill∧ag5 n.stroke
abbrev dY.nrm{w:Á}{n:ah}(h:dY K w n):n.nrm:=
 ⟨(aT.toQ h.1.2.2.2.1 h.2.1).nrm,λp hp=>(aT.toQ (h.1.2.2.2.2.2.2.2.2.2.1.2 p hp).2.2.2.2.2.2.2.2.2 (h.2.2.1 p hp)).nrm,λp hp=>(aT.toQ (h.1.2.2.2.2.2.2.2.2.2.2.2.1.2 p hp).2.2.2.2.2.2.2.2.2 (h.2.2.2.1 p hp)).nrm⟩
abbrev RD{a b:Bool}:cond a false b=(!a&&b):=by cases a<;>rfl
abbrev ag6{a b:ah}(ha:a.nrm)(hb:b.nrm):a.eqP b=decide (a.key=b.key):=by
 rw[ĩ];unfold ah.eqP;rw[aiZ ha.1 hb.1,oq ha.2.1 hb.2.1,oq ha.2.2 hb.2.2,Oq,YH];simp only[RD,æ,ś,Ĕ,bne_eq_false_iff_eq,Ő,Û,Ý,Oo,ah.key,aN.mk.injEq,and_assoc];constructor
 .rintro⟨h1,h2,h3,h4,h5,h6,h7,h8,h9,h10,h11,h12,h13,LY,h15,h16,h17⟩; exact⟨h1,h2,h3,h11,h12,h4,h5,h6,h7,h8,h13,h9,LY,h16,h15,h17,h10⟩
 rintro⟨h1,h2,h3,h11,h12,h4,h5,h6,h7,h8,h13,h9,LY,h16,h15,h17,h10⟩; exact⟨h1,h2,h3,h4,h5,h6,h7,h8,h9,h10,h11,h12,h13,LY,h15,h16,h17⟩
abbrev ag7{a b:ah}(ha:a.nrm)(hb:b.nrm):a.eqR b=decide (a.key=b.key):=by
 rw[ĩ];unfold ah.eqR;rw[YI,oq ha.2.1 hb.2.1,oq ha.2.2 hb.2.2,Oq,YH];simp only[RD,æ,ś,Ĕ,bne_eq_false_iff_eq,Ő,Û,Ý,Oo,ah.key,aN.mk.injEq,and_assoc];constructor
 .rintro⟨h1,h2,h3,h11,h4,h9,h10,h5,h6,h7,h8,h12,h13,LY,h15,h16,h17⟩; exact⟨h1,h2,h3,h11,h12,h4,h5,h6,h7,h8,h13,h9,LY,h16,h15,h17,h10⟩
 rintro⟨h1,h2,h3,h11,h12,h4,h5,h6,h7,h8,h13,h9,LY,h16,h15,h17,h10⟩; exact⟨h1,h2,h3,h11,h4,h9,h10,h5,h6,h7,h8,h12,h13,LY,h15,h16,h17⟩
abbrev Il(n:ah):n.jE=n.style.eq aY.bare:=by
 rw[ĩ];unfold ah.jE aY.eq aY.bare;simp only[æ,Û,Ý];have h0:(n.style.dash.length:Int)=0↔n.style.dash=[]:=by
  rw[<-List.length_eq_zero_iff]; omega
 rw[h0];constructor
 .rintro⟨⟨⟨⟨⟨h1,h2⟩,h3⟩,h4⟩,h5⟩,h6⟩; exact⟨⟨⟨⟨⟨h1,h2⟩,h3⟩,h4⟩,h6⟩,h5⟩
 rintro⟨⟨⟨⟨⟨h1,h2⟩,h3⟩,h4⟩,h6⟩,h5⟩; exact⟨⟨⟨⟨⟨h1,h2⟩,h3⟩,h4⟩,h5⟩,h6⟩
abbrev VP(n:ah):n.oz=(n.img.eq dA.bare&&(n.dw==0)):=by
 have h0:((n.img.l.length:Int)==0)=(n.img.l==[]):=by
  rw[ĩ]; simp only[Û]; rw[<-List.length_eq_zero_iff]; omega
 unfold ah.oz dA.eq dA.bare;rw[h0];ac_rfl
abbrev VQ(n:ah):(!n.ql)=((!(((((n.clip.length:Int))==0)&&((n.aJ)==0))||((decide (0<(n.clip.length:Int)))&&((n.aJ==1)||(n.aJ==2)))))||(!(n.bare))):=by
 unfold ah.ql ah.bare;rw[Il,VP];unfold ah.mM ah.oC;generalize n.style.eq aY.bare=s;generalize n.img.eq dA.bare=i;have hn:(decide (0<(n.clip.length:Int))) = !((n.clip.length:Int)==0):=by
  rw[ĩ]; simp only[Ý,ś,ä]; omega
 rw[hn,show(n.aJ != 0) = !(n.aJ==0)from rfl];cases h1:n.kind==1<;>cases h2:n.kind==2<;>simp only[cond_true,cond_false];all_goals
  cases (n.clip.length:Int)==0<;>cases n.aJ==0<;>cases n.aJ==1<;>cases n.aJ==2<;>simp[Bool.and_assoc]
abbrev VR(n:ah):n.mJ=kM n.vw:=by
 unfold ah.mJ ah.vw;rw[Il];have hn:((n.stroke.length:Int)==0) = !(decide (0<(n.stroke.length:Int))):=by
  rw[ĩ]; simp only[ś,ð,Û]; omega
 rw[hn];simp only[kM,Bool.cond_eq_ite]
abbrev VT(n:ah):n.jU=n.checkN:=by
 unfold ah.jU ah.checkN ah.sZ;rw[VQ,VR];have hq:(jH n.t.q.wE q0==0)=pW n.t.q.wE q0:=I;rw[hq];unfold ah.gZ;generalize ((!(((((n.clip.length:Int))==0)&&((n.aJ)==0))||((decide (0<(n.clip.length:Int)))&&((n.aJ==1)||(n.aJ==2)))))||(!(n.bare)))=f;generalize ((decide (n.kind<1))||(decide (3<n.kind)))=a;generalize ((((decide (n.id<1))||(decide (1073741824<n.id)))||(decide (n.depth<0)))||(decide (8<=n.depth)))=b;generalize kM n.vw=s;cases h1:n.kind==1<;>cases h2:n.kind==2<;>cases a<;>cases b<;>cases n.t.q.valid<;>cases pW n.t.q.wE q0<;>cases iZ n.clip<;>cases f<;>simp[badL,kM,Bool.cond_eq_ite];all_goals
  have h1':n.kind=1:=by simpa using h1
  rw[h1']at h2
  simp at h2
end
section
abbrev aaj{p q:aj}(h:p.key=q.key):p.valid=q.valid:=by
 obtain⟨k,c,p0,p1,r,sva,svc,st,sp,⟨iw,ih,isa,isc,il⟩,sm,t⟩:=p;obtain⟨k',c',p0',p1',r',apo,apq,st',sp',⟨iw',ih',apr,aps,il'⟩,sm',t'⟩:=q;simp only[aj.key,dA.key,sV.mk.injEq,Cj.mk.injEq]at h;obtain⟨rfl,rfl,rfl,rfl,rfl,rfl,rfl,⟨rfl,rfl,rfl⟩,rfl,ht⟩:=h;have hw:∀(b:aj),(aj.without ⟨k,c,p0,p1,r,sva,svc,st,sp,⟨iw,ih,isa,isc,il⟩,sm,t⟩).eq b=(aj.without ⟨k,c,p0,p1,r,apo,apq,st,sp,⟨iw,ih,apr,aps,il⟩,sm,t'⟩).eq b:=by
  intro b;unfold aj.without;simp only;cases k==1<;>cases k==2<;>cases k==3<;>cases k==4<;>simp only[cond_true,cond_false,aj.YB,aj.only2,aj.YC,aj.YD,aj.adt,aj.eq]<;>rfl
 unfold aj.valid;simp only[hw,ht];rfl
theorem AU:∀{l m:List aj},l.map aj.key=m.map aj.key->l.all aj.valid=m.all aj.valid
 | [],[],_=>rfl
 | [],_::_,h=>by cases h
 | _::_,[],h=>by cases h
 | x::l,y::m,h=>by
  simp only[Ē,ģ]at h
  rw[ay7,ay7,aaj h.1,AU h.2]
abbrev VU{a b:ah}(h:a.key=b.key):a.checkN=b.checkN:=by
 simp only[ah.key,aY.key,dA.key,aN.mk.injEq,sW.mk.injEq,Cj.mk.injEq]at h;obtain⟨h1,h2,h3,h4,h5,h6,h7,h8,h9,h10,h11,h12,h13,⟨s1,s2,s3,s4,s5,s6⟩,h15,⟨i1,i2,i3⟩,h17⟩:=h;have l1:a.fill.length=b.fill.length:=by have:=Ñ List.length h13; simpa using this
 have l2:a.stroke.length=b.stroke.length:=by have:=Ñ List.length h15; simpa using this
 have hs:∀p:aY,a.style.eq p=b.style.eq p:=λp=>by unfold aY.eq; rw[s1,s2,s3,s4,s5,s6]
 have hi:∀m:dA,a.img.eq m=b.img.eq m:=λm=>by unfold dA.eq; rw[i1,i2,i3]
 have hb:a.bare=b.bare:=by unfold ah.bare; rw[hs,hi,h2,h7,h8,h9,h10,h11,h12,h17,l1,l2]
 have hsv:a.style.valid=b.style.valid:=by unfold aY.valid; rw[s1,s2,s3,s4,s5,s6]
 have hiv:a.img.valid=b.img.valid:=by unfold dA.valid dA.size; rw[i1,i2,i3]
 have hc:a.gZ=b.gZ:=by unfold ah.gZ; rw[hb,h1,h2,h3,h4,h5,h6]
 have hsh:a.vw=b.vw:=by unfold ah.vw; rw[h11,h12,l1,l2,hsv,hs,AU h13,AU h15]
 unfold ah.checkN ah.sZ;rw[hc,hsh,h2,h8,hiv,h17]
open Classical in
noncomputable def aN.chk(κ:aN):Int:=if h:∃n:ah,n.key=κ then h.choose.checkN else 1
abbrev qm(n:ah):n.key.chk=n.checkN:=by
 have h:∃m:ah,m.key=n.key:=⟨n,I⟩;unfold aN.chk;rw[dif_pos h];exact VU h.choose_spec
theorem Io:∀{l:List (Bool×Int)},(∀p∈l,p.2≠0)->kM l=0->∀p∈l,p.1=false
 | [],_,_,p,hp=>by cases hp
 | q::l,h,h0,p,hp=>by
  unfold kM at h0
  split at h0
  .exact absurd h0 (h q ë)
  .rename_i hq
   rcases ç.1 hp with rfl | hp
   .simpa using hq
   .exact Io (λp hp=>h p (Ŋ _ hp)) h0 p hp
abbrev KQ(n:ah):∀p∈n.gZ,p.2≠0:=by
 intro p hp;simp only[ah.gZ,ç,List.not_mem_nil,or_false]at hp;rcases hp with rfl | rfl | rfl | rfl | rfl | rfl
 .exact(by decide:(2:Int)≠0)
 .exact(by decide:(6:Int)≠0)
 .exact(by decide:(5:Int)≠0)
 .exact(by decide:(9:Int)≠0)
 .exact(by decide:(10:Int)≠0)
 exact(by decide:(17:Int)≠0)
abbrev EP{n:ah}(h:n.checkN=0):badL n.gZ=false∧n.sZ=0:=by
 unfold ah.checkN at h;cases hb:badL n.gZ
 .rw[hb]at h; exact⟨I,h⟩
 rw[hb,cond_true]at h;have:=Io (KQ n) h;unfold badL at hb;obtain⟨p,hp,hp2⟩:=ay9.1 hb;rw[this p hp]at hp2;cases hp2
abbrev qo{n:ah}(h:n.checkN=0):1<=n.kind∧n.kind<=3∧1<=n.id∧n.id<=1073741824∧0<=n.depth∧n.depth<8:=by
 have hb:=(EP h).1;simp only[badL,ah.gZ,List.any_cons,Ĕ,ð]at hb;obtain⟨⟨h1,h2⟩,⟨⟨⟨h3,h4⟩,h5⟩,h6⟩,_⟩:=hb;omega
abbrev Ot{n:ah}(h:n.checkN=0)(d:Int):({n with depth:=d}:ah).checkN=if 0<=d∧d<8 then 0 else 6:=by
 obtain⟨hb,ho⟩:=EP h;have ho':({n with depth:=d}:ah).sZ=0:=ho;have hcL:({n with depth:=d}:ah).gZ=((decide (n.kind<1))||(decide (3<n.kind)),2)::((((decide (n.id<1))||(decide (1073741824<n.id)))||(decide (d<0)))||(decide (8<=d)),6)::n.gZ.drop 2:=I;have hb2:badL (n.gZ.drop 2)=false:=by
  simp only[badL]at hb |-;rw[show n.gZ=n.gZ.take 2++n.gZ.drop 2 from(ň _ _).symm,List.any_append,Ĕ]at hb;exact hb.2
 have hf:=qo h;have e1:((decide (n.kind<1))||(decide (3<n.kind)))=false:=by simp; omega
 have e2:((decide (n.id<1))||(decide (1073741824<n.id)))=false:=by simp; omega
 unfold ah.checkN;rw[ho',hcL,e1,e2];by_cases hd:0<=d∧d<8
 .have e3:((false||decide (d<0))||decide (8<=d))=false:=by simp; omega
  rw[Ï hd,e3];unfold badL;rw[List.any_cons,List.any_cons];have:(n.gZ.drop 2).any (·.1)=false:=hb2;rw[this];rfl
 have e3:((false||decide (d<0))||decide (8<=d))=true:=by simp; omega
 rw[É hd,e3];rfl
abbrev K15{κ:aN}(h:κ.chk=0):∃n:ah,n.key=κ∧n.checkN=0:=by
 unfold aN.chk at h;split at h
 .rename_i hx; exact⟨hx.choose,hx.choose_spec,h⟩
 cases h
abbrev K16{κ:aN}(h:κ.chk=0):1<=κ.kind∧κ.kind<=3∧1<=κ.id∧κ.id<=1073741824∧0<=κ.depth∧κ.depth<8:=by
 obtain⟨n,rfl,hn⟩:=K15 h;exact qo hn
abbrev K17{κ:aN}(h:κ.chk=0)(d:Int):({κ with depth:=d}:aN).chk=if 0<=d∧d<8 then 0 else 6:=by
 obtain⟨n,rfl,hn⟩:=K15 h;rw[show({n.key with depth:=d}:aN)=({n with depth:=d}:ah).key from rfl,qm,Ot hn]
end
section
def xg(f:Nat->Int)(d:Int):Nat->Nat->Nat
 | 0,k=>k
 | m+1,k=>if d<f k then xg f d m (k+1)else k
def KR(n:Nat)(f:Nat->Int)(i:Nat):Nat:=xg f (f i) (n-(i+1)) (i+1)
theorem Ip{f:Nat->Int}{d:Int}:∀(m k:Nat),k<=xg f d m k∧xg f d m k<=k+m∧(∀j,k<=j->j<xg f d m k->d<f j)∧(xg f d m k<k+m->f (xg f d m k)<=d)
 | 0,k=>by simp[xg]; intro j h1 h2; omega
 | m+1,k=>by
  unfold xg
  split
  .rename_i h
   obtain⟨h1,h2,h3,h4⟩:=Ip (f:=f) (d:=d) m (k+1)
   refine⟨Z,Z,λj hj1 hj2=>?_,λhl=>h4 Z⟩
   by_cases hk:j=k
   .rw[hk]; exact h
   .exact h3 j Z hj2
  .rename_i h
   exact⟨Ó _,Z,λj h1 h2=>by omega,λ_=>by omega⟩
variable{i j:Nat}{f:Nat->Int}{id root to:Int}
abbrev L8{n:Nat}(hi:i<n):i<KR n f i∧KR n f i<=n∧(∀j,i<j->j<KR n f i->f i<f j)∧(KR n f i<n->f (KR n f i)<=f i):=by
 obtain⟨h1,h2,h3,h4⟩:=Ip (f:=f) (d:=f i) (n-(i+1)) (i+1);unfold KR;exact⟨Z,Z,λj hj=>h3 j Z,λh=>h4 Z⟩
abbrev YJ{n k:Nat}(hi:i<n)(h1:i<k)(h2:k<=n)(h3:∀j,i<j->j<k->f i<f j)(h4:k<n->f k<=f i):KR n f i=k:=by
 obtain⟨e1,e2,e3,e4⟩:=L8 (f:=f) hi;rcases ay3 (KR n f i) k with h | h | h
 .have:=e4 Z; have:=h3 _ e1 h; omega
 .exact h
 have:=h4 Z; have:=e3 k h1 h; omega
structure aV where
 w:Int
 h:Int
 bg:bQ
 ns:List aN
deriving DecidableEq
structure bH where
 kind:Int
 id:Int
 index:Int
 depth:Int
 node:aN
 color:bQ
deriving DecidableEq
def aV.zero:aV:=⟨0,0,bQ.none,[]⟩
def aN.zero:aN:=fM.key
def DY(l:List aN)(k:Nat):Int:=((l[k]?).map aN.depth).getD 0
def jD(l:List aN)(id:Int):Option Nat:=l.findIdx? λκ=>κ.id==id
def jQ(l:List aN)(id:Int):Int:=match jD l id with | some i=>i | none => -1
def xk(pre:List aN):Int:=match pre.getLast? with | none=>0 | some p=>if p.kind=1 then p.depth+1 else p.depth
noncomputable def gX(pre:List aN)(x:aN):Int:=
 if x.chk≠0 then x.chk else if pre.any (λκ=>κ.id==x.id)then 7 else if x.depth<=xk pre then 0 else 17
noncomputable def jg(pre:List aN):List aN->Int×Int
 | []=>(0,0)
 | x::r=>if gX pre x=0 then jg (pre++[x]) r else (gX pre x,pre.length)
noncomputable def aV.chk(s:aV):Int×Int:=
 if s.w<1∨256<s.w∨s.h<1∨256<s.h then (6,0)else if 64<s.ns.length then (5,64)else jg [] s.ns
noncomputable def aV.valid(s:aV):Bool:=s.chk.1==0
def zW(pre:List aN):List aN->Prop
 | []=>True
 | x::r=>gX pre x=0∧zW (pre++[x]) r
abbrev VL (l:List aN):Prop:=zW [] l
theorem Cm:∀{l pre:List aN},(jg pre l).1=0↔zW pre l
 | [],pre=>by simp[jg,zW]
 | x::r,pre=>by
  unfold jg zW
  split
  .rename_i h; rw[Cm]; simp[h]
  .rename_i h; simp[h]
abbrev zW.chk:∀{l pre:List aN},zW pre l->jg pre l=(0,0)
 | [],pre,_=>rfl
 | x::r,pre,h=>by unfold jg; rw[Ï h.1]; exact h.2.chk
abbrev aV.oV{s:aV}:s.valid=true↔(1<=s.w∧s.w<=256∧1<=s.h∧s.h<=256)∧s.ns.length<=64∧VL s.ns:=by
 unfold aV.valid aV.chk;rw[Û];split
 .rename_i h; constructor
  .intro h2; cases h2
  rintro⟨h2,_⟩; omega
 split
 .constructor
  .intro h2; cases h2
  rintro⟨_,h2,_⟩; omega
 rw[Cm];constructor
 .intro h2; exact⟨Z,Z,h2⟩
 rintro⟨_,_,h2⟩; exact h2
abbrev xq{pre:List aN}{x:aN}:gX pre x=0↔x.chk=0∧(∀κ∈pre,κ.id≠x.id)∧x.depth<=xk pre:=by
 unfold gX;split
 .rename_i h; exact⟨λh2=>absurd h2 h,λh2=>absurd h2.1 h⟩
 rename_i h;split
 .rename_i h2;obtain⟨κ,h3,h4⟩:=ay9.1 h2;exact⟨λh5=>absurd h5 O,λh5=>absurd (by simpa using h4) (h5.2.1 κ h3)⟩
 rename_i h2;have h3:∀κ∈pre,κ.id≠x.id:=λκ VW he=>h2 (ay9.2 ⟨κ,VW,by simpa using he⟩);split
 .rename_i h4; exact⟨λ_=>⟨by simpa using h,h3,h4⟩,λ_=>rfl⟩
 rename_i h4; exact⟨λh5=>absurd h5 O,λh5=>absurd h5.2.2 h4⟩
theorem Mc:∀{l pre:List aN},zW pre l↔∀a x b,l=a++x::b->gX (pre++a) x=0
 | [],pre=>⟨λ_ a x b h=>by simp at h,λ_=>trivial⟩
 | y::r,pre=>by
  unfold zW
  rw[Mc (l:=r)]
  constructor
  .rintro⟨h1,h2⟩ a x b h
   cases a with
   | nil =>
    simp only[ĵ,ģ]at h
    rw[ņ,<-h.1]; exact h1
   | cons z a =>
    simp only[ō,ģ]at h
    rw[h.1]at h2
    rw[show pre++z::a=(pre++[z])++a by simp]
    exact h2 a x b h.2
  .intro h
   refine⟨by simpa using h [] y r I,λa x b e=>?_⟩
   rw[show(pre++[y])++a=pre++y::a by simp]
   exact h (y::a) x b (by rw[e]; rfl)
abbrev Ou{l:List aN}:VL l↔(∀x∈l,x.chk=0)∧(l.map aN.id).Nodup∧∀a x b,l=a++x::b->x.depth<=xk a:=by
 unfold VL;rw[Mc];simp only[ĵ,xq];constructor
 .intro h;refine⟨λx hx=>?_,?_,λa x b e=>(h a x b e).2.2⟩
  .obtain⟨a,b,e⟩:=List.append_of_mem hx;exact(h a x b e).1
  rw[List.nodup_iff_pairwise_ne];rw[List.pairwise_map];have key:∀(l pre:List aN),(∀a x b,l=a++x::b->∀κ∈pre++a,κ.id≠x.id)->List.Pairwise (λa b:aN=>a.id≠b.id) l:=by
   intro l;induction l with
   | nil=>intro _ _; exact List.Pairwise.nil
   | cons y r ih =>
    intro pre h;refine List.Pairwise.cons (λz hz=>?_) (ih (pre++[y]) λa x b e κ VW=>h (y::a) x b (by rw[e]; rfl) κ (by simpa using VW));obtain⟨a,b,e⟩:=List.append_of_mem hz;exact h (y::a) z b (by rw[e]; rfl) y Y
  exact key l [] λa x b e κ VW=>(h a x b e).2.1 κ (by simpa using VW)
 rintro⟨h1,h2,h3⟩ a x b e;refine⟨h1 x (by rw[e]; simp),λκ VW he=>?_,h3 a x b e⟩;rw[e,ĥ,Ē,ŋ]at h2;exact h2.2.2 κ.id (Ć.2 ⟨κ,VW,I⟩) x.id ë he
abbrev CB{l:List aN}{k:Nat}(h:k<l.length):DY l k=l[k].depth:=by simp[DY,List.getElem?_eq_getElem h]
abbrev aV.aak{s:aV}(h:s.valid=true):s.chk=(0,0):=by
 obtain⟨h1,h2,h3⟩:=aV.oV.1 h;unfold aV.chk;rw[É Z,É Z];exact h3.chk
abbrev vC{l:List aN}(h:jD l id=some i):∃hi:i<l.length,l[i].id=id:=by
 unfold jD at h;obtain⟨h1,h2,_⟩:=List.findIdx?_eq_some_iff_getElem.1 h;exact⟨h1,by simpa using h2⟩
abbrev Iq{l:List aN}:jD l id=none↔∀κ∈l,κ.id≠id:=by
 unfold jD;rw[List.findIdx?_eq_none_iff];simp
def jV(l:List aN)(i:Nat):Nat:=i+1+((l.drop (i+1)).takeWhile λκ=>decide (DY l i<κ.depth)).length
abbrev CG{l:List aN}(hi:i<l.length):i+1<=jV l i∧jV l i<=l.length:=by
 unfold jV;have:=(List.takeWhile_sublist (l:=l.drop (i+1)) λκ:aN=>decide (DY l i<κ.depth)).length_le;rw[Ŵ]at this;omega
theorem RG(l:List aN)(d:Int):∀m k:Nat,m+k=l.length->xg (DY l) d m k=k+((l.drop k).takeWhile λκ=>decide (d<κ.depth)).length
 | 0,k,h=>by rw[Ń Z]; rfl
 | m+1,k,h=>by
  have hk:k<l.length:=Z
  unfold xg
  rw[CB hk,<-azk hk,List.takeWhile_cons]
  split
  .rename_i hd
   rw[RG l d m (k+1) Z,Ï (by simpa using hd),Ĺ]; omega
  .rename_i hd
   rw[É (by simpa using hd)]; rfl
abbrev Ir{l:List aN}(hi:i<l.length):jV l i=KR l.length (DY l) i:=by
 unfold jV KR;rw[RG l _ _ _ Z]
def bH.named(e:bH):Bool:=
 if e.kind=1 then e.id==0&&(e.depth==0&&e.color==bQ.none)
 else if e.kind=2 then e.index==0&&(e.depth==0&&(e.node==aN.zero&&e.color==bQ.none))
 else if e.kind=3 then e.node==aN.zero&&e.color==bQ.none
 else if e.kind=4 then e.id==0&&(e.index==0&&(e.depth==0&&e.color==bQ.none))
 else if e.kind=5 then e.id==0&&(e.index==0&&(e.depth==0&&e.node==aN.zero))
 else false
def FQ(l:List aN)(at':Nat)(more:List aN):List aN:=l.take at'++more++l.drop at'
def vF(l:List aN)(i j:Nat):List aN:=l.take i++l.drop j
def DZ(l:List aN)(i j:Nat):List aN:=(l.drop i).take (j-i)
def aN.adu(n:aN)(root to:Int):aN:={n with depth:=if to<0∨8<to then -1 else n.depth-root+to}
def jy(l:List aN)(e:bH):Except Int (List aN):=
 if e.kind=1 then (if e.index<0∨(l.length:Int)<e.index then .error 6 else .ok (FQ l e.index.toNat [e.node]))
 else if e.kind=2 then (match jD l e.id with | none => .error 8 | some i => .ok (vF l i (jV l i)))
 else if e.kind=3 then (match jD l e.id with
  | none => .error 8
  | some i=>if e.index<0∨((vF l i (jV l i)).length:Int)<e.index then .error 6
   else .ok (FQ (vF l i (jV l i)) e.index.toNat ((DZ l i (jV l i)).map λn=>n.adu (DY l i) e.depth)))
 else if e.kind=4 then (match jD l e.node.id with
  | none => .error 8
  | some i=>if e.node.depth≠DY l i then .error 2 else .ok (l.set i e.node))
 else .ok l
def aV.with'(s:aV)(e:bH)(l:List aN):aV:=⟨s.w,s.h,if e.kind=5 then e.color else s.bg,l⟩
noncomputable def fD(s:aV)(e:bH):aV×Int:=
 if s.valid=false then (.zero,18)else if e.named=false then (.zero,2)else
 match jy s.ns e with
 | .error n=>(.zero,n)
 | .ok l=>if (s.with' e l).chk.1=0 then (s.with' e l,0)else (.zero,(s.with' e l).chk.1)
abbrev Md{s t:aV}{e:bH}(h:fD s e=(t,0)):s.valid=true∧e.named=true∧∃l,jy s.ns e = .ok l∧t=s.with' e l∧t.valid=true:=by
 unfold fD at h;split at h
 .simp at h
 rename_i h1;split at h
 .simp at h
 rename_i h2;refine⟨by simpa using h1,by simpa using h2,?_⟩;cases hn:jy s.ns e with
 | error n =>
  rw[hn]at h;simp only[Ô]at h;exfalso;have h0:=h.2;subst h0;unfold jy at hn;repeat' split at hn
  all_goals first | (simp only[ų]at hn; omega) | cases hn
 | ok l =>
  rw[hn]at h;simp only at h;split at h
  .rename_i h3;simp only[Ô,and_true]at h;exact⟨l,I,h.symm,by rw[<-h]; unfold aV.valid; simpa using h3⟩
  rename_i h3;simp only[Ô]at h;exact absurd h.2 h3
abbrev aal{s:aV}{e:bH}{l:List aN}(h1:s.valid=true)(h2:e.named=true)(h3:jy s.ns e = .ok l)(h4:(s.with' e l).valid=true):fD s e=(s.with' e l,0):=by
 unfold fD;rw[É (by simp[h1]),É (by simp[h2]),h3];simp only;rw[Ï (by rw[aV.aak h4])]
def bH.remove(id:Int):bH:=⟨2,id,0,0,.zero,.none⟩
def Me(p:aN):Int:=if p.kind=1 then p.depth+1 else p.depth
def xu(r:Int)(a:List aN):Int:=match a.getLast? with | none=>r | some p=>Me p
def Steps(r:Int):List aN->Prop
 | []=>True
 | x::t=>x.depth<=r∧Steps (Me x) t
abbrev tq(r:Int)(x:aN)(a:List aN):xu r (x::a)=xu (Me x) a:=by
 unfold xu;cases a with
 | nil=>rfl
 | cons y a=>rw[List.getLast?_cons_cons]; cases h:(y::a).getLast? with
  | none=>simp at h
  | some p=>rfl
theorem qp:∀{a b:List aN} {r:Int},Steps r (a++b)↔Steps r a∧Steps (xu r a) b
 | [],b,r=>by simp only[ĵ,Steps,true_and]; rfl
 | x::a,b,r=>by
  rw[ō,tq]
  show x.depth<=r∧Steps (Me x) (a++b)↔(x.depth<=r∧Steps (Me x) a)∧_
  rw[qp,and_assoc]
abbrev CJ{l:List aN}:VL l↔(∀x∈l,x.chk=0)∧(l.map aN.id).Nodup∧Steps 0 l:=by
 rw[Ou];refine and_congr_right λ_=>and_congr_right λ_=>?_;have key:∀(l:List aN) (r:Int),(∀a x b,l=a++x::b->x.depth<=xu r a)↔Steps r l:=by
  intro l;induction l with
  | nil=>intro r; exact⟨λ_=>trivial,λ_ a x b h=>by simp at h⟩
  | cons y l ih =>
   intro r;show _↔y.depth<=r∧Steps (Me y) l;rw[<-ih];constructor
   .intro h;refine⟨h [] y l I,λa x b e=>?_⟩;rw[<-tq r];exact h (y::a) x b (by rw[e]; rfl)
   rintro⟨h1,h2⟩ a x b e;cases a with
   | nil =>
    simp only[ĵ,ģ]at e;rw[<-e.1]; exact h1
   | cons z a =>
    simp only[ō,ģ]at e;rw[<-e.1,tq];exact h2 a x b e.2
 exact key l 0
abbrev VL.depth{l:List aN}(h:VL l):∀x∈l,0<=x.depth∧x.depth<8:=λx hx=>(K16 ((Ou.1 h).1 x hx)).2.2.2.2
abbrev Steps.cut{A B S:List aN}{x:aN}{r:Int}(h:Steps r (A++x::(S++B)))(hB:∀y∈B.head?,y.depth<=x.depth):Steps r (A++B):=by
 rw[qp]at h |-;refine⟨h.1,?_⟩;cases B with
 | nil=>trivial
 | cons y B =>
  have h1:=hB y I;have h2:=h.2.1;have h3:=(qp.1 h.2.2).2;exact⟨Z,h3.2⟩
abbrev VL.sub{l m:List aN}(h:VL l)(hs:m.Sublist l)(hm:Steps 0 m):VL m:=by
 obtain⟨h1,h2,h3⟩:=CJ.1 h;exact CJ.2 ⟨λx hx=>h1 x (hs.subset hx),h2.sublist (hs.map _),hm⟩
abbrev VL.take{l:List aN}(h:VL l)(n:Nat):VL (l.take n):=by
 refine h.sub (List.take_sublist n l) ?_;have:=(CJ.1 h).2.2;rw[<-ň n l,qp]at this;exact this.1
abbrev drop_cons{l:List aN}(hi:i<l.length):l=l.take i++l[i]::l.drop (i+1):=by rw[azk,ň]
theorem VL.vF{l:List aN}{i:Nat}(h:VL l)(hi:i<l.length):VL (vF l i (jV l i)):=by
 obtain⟨e1,e2⟩:=CG hi;refine h.sub ?_ ?_
 .unfold Go.Proofs.Pv.vF;have:l=l.take i++l.drop i:=(ň _ _).symm;have e3:l.drop (jV l i)=(l.drop i).drop (jV l i-i):=by rw[Ι]; congr 1; omega
  rw[e3];have h5:=List.Sublist.append_left (List.drop_sublist (jV l i-i) (l.drop i)) (l.take i);rw[ň]at h5;exact h5
 have hs:=(CJ.1 h).2.2;have e:l=l.take i++l[i]::((l.drop (i+1)).take (jV l i-(i+1))++l.drop (jV l i)):=by
  conv=>lhs; rw[drop_cons hi]
  congr 2;rw[show l.drop (jV l i)=(l.drop (i+1)).drop (jV l i-(i+1)) by rw[Ι]; congr 1; omega,ň]
 rw[e]at hs;refine Steps.cut hs λy hy=>?_;rw[List.head?_drop]at hy;have hl:jV l i<l.length:=by
  by_cases hx:jV l i<l.length
  .exact hx
  rw[List.getElem?_eq_none Z]at hy; cases hy
 rw[List.getElem?_eq_getElem hl]at hy;cases hy;have h4:=(L8 (n:=l.length) (f:=DY l) hi).2.2.2;rw[<-Ir hi,CB hi,CB hl]at h4;exact h4 hl
abbrev aam{l:List aN}(hi:i<l.length):DZ l i (jV l i)=l[i]::(l.drop (i+1)).take (jV l i-(i+1)):=by
 have:=CG hi;unfold DZ;rw[<-azk hi,show jV l i-i=(jV l i-(i+1))+1 by omega,List.take_succ_cons]
abbrev adv{l:List aN}{x:aN}(h:x∈DZ l i j):x∈l:=ayV (ţ h)
abbrev RH{l m:List aN}{k:Nat}(hk:k<=l.length):(FQ l k m).length=l.length+m.length:=by
 unfold FQ;rw[ì,ì,Ľ,Ŵ]; omega
abbrev Iu{l:List aN}(h1:i<=j)(h2:j<=l.length):(vF l i j).length+(DZ l i j).length=l.length:=by
 unfold vF DZ;rw[ì,Ľ,Ŵ,Ľ,Ŵ]; omega
theorem zX:∀{a b pre:List aN} {x:aN},zW pre a->gX (pre++a) x≠0->jg pre (a++x::b)=(gX (pre++a) x,(((pre++a).length:Nat):Int))
 | [],b,pre,x,_,h=>by
  rw[ņ]at h |-
  rw[ĵ]
  unfold jg
  rw[É h]
 | y::a,b,pre,x,hv,h=>by
  rw[ō]
  unfold jg
  rw[Ï hv.1,zX (a:=a) hv.2 (by rw[ĭ]; exact h),ĭ]
  rfl
abbrev Iw{pre:List aN}{x:aN}(h:x.chk≠0):gX pre x=x.chk:=by unfold gX; rw[Ï h]
def aN.moved(n:aN)(root to:Int):aN:={n with depth:=IntKind.i64.wrap (n.depth+IntKind.i64.wrap (to-root))}
def fO(l:List aN)(e:bH):Except Int (List aN):=
 if e.kind=3 then (match jD l e.id with
  | none => .error 8
  | some i=>if e.index<0∨((vF l i (jV l i)).length:Int)<e.index then .error 6
   else .ok (FQ (vF l i (jV l i)) e.index.toNat ((DZ l i (jV l i)).map λn=>n.moved (DY l i) e.depth)))
 else jy l e
noncomputable def Ov(s:aV)(e:bH):aV×Int:=
 if s.valid=false then (.zero,18)else if e.named=false then (.zero,2)else
 match fO s.ns e with
 | .error n=>(.zero,n)
 | .ok l=>if (s.with' e l).chk.1=0 then (s.with' e l,0)else (.zero,(s.with' e l).chk.1)
abbrev VX{n:aN}(h1:0<=n.depth∧n.depth<8)(h2:0<=root∧root<8)(h3:0<=to∧to<=8):n.moved root to=n.adu root to:=by
 unfold aN.moved aN.adu;rw[É Z];have:IntKind.i64.wrap (n.depth+IntKind.i64.wrap (to-root))=n.depth-root+to:=by rw[Ř,Ř]; omega
 rw[this]
abbrev aan(h2:0<=root∧root<8)(h3:I64 to):IntKind.i64.wrap (root+IntKind.i64.wrap (to-root))=to:=by
 have:=h3.1; have:=h3.2;rw[Ř,Ř]; omega
abbrev MB{s:aV}{e:bH}(hd:I64 e.depth):Ov s e=fD s e:=by
 unfold Ov fD;cases hv:s.valid with
 | false=>rfl
 | true =>
  rw[É O,É (show ¬true=false by decide)];obtain⟨hw,hlen,hV⟩:=aV.oV.1 hv;cases hn:e.named with
  | false=>rfl
  | true =>
   rw[É (show ¬true=false by decide),É (show ¬true=false by decide)];unfold fO;by_cases hk:e.kind=3
   .rw[Ï hk];unfold jy;rw[É Z,É Z,Ï hk];cases hf:jD s.ns e.id with
    | none=>rfl
    | some i =>
     simp only;obtain⟨hi,hid⟩:=vC hf;obtain⟨e1,e2⟩:=CG hi;by_cases hx:e.index<0∨((vF s.ns i (jV s.ns i)).length:Int)<e.index
     .simp only[Ï hx]
     simp only[É hx];have hr:=hV.depth _ (þ hi);have hc:=hV.vF hi;rw[CB hi];by_cases ht:0<=e.depth∧e.depth<=8
     .have:(DZ s.ns i (jV s.ns i)).map (λn=>n.moved s.ns[i].depth e.depth)=(DZ s.ns i (jV s.ns i)).map (λn=>n.adu s.ns[i].depth e.depth):=
       List.map_congr_left λn hn=>VX (hV.depth n (adv hn)) hr ht
      rw[this]
     
     have key:∀(f:aN->aN),(f s.ns[i]).chk=6->(s.with' e (FQ (vF s.ns i (jV s.ns i)) e.index.toNat ((DZ s.ns i (jV s.ns i)).map f))).chk=(6,e.index):=by
      intro f hf6;have hlen2:=Iu (l:=s.ns) (i:=i) (j:=jV s.ns i) Z e2;have hix:e.index.toNat<=(vF s.ns i (jV s.ns i)).length:=Z
      show aV.chk ⟨s.w,s.h,_,_⟩=_;unfold aV.chk;simp only;rw[É Z,É (by rw[RH hix,Ģ]; omega)];rw[aam hi];unfold FQ;rw[Ē,ĭ,ō];have h6:gX ([]++(vF s.ns i (jV s.ns i)).take e.index.toNat) (f s.ns[i])=6:=by rw[Iw (by rw[hf6]; decide),hf6]
      rw[zX (hc.take _) (by rw[h6]; decide),h6];congr 1;rw[ĵ,Ľ]; omega
     have hck:=(Ou.1 hV).1 _ (þ hi);rw[key _ (by
      show({s.ns[i]with depth:=_}:aN).chk=6;rw[aan hr hd,K17 hck,É Z])]
     rw[key _ (by
      unfold aN.adu;rw[Ï Z,K17 hck,É Z])]
     rfl
   simp only[É hk]<;>rfl
end
section
open Go.RowKit Go.Sx
variable{α:Type}{K:Nat}
structure aA where
 w:Int
 h:Int
 bg:bQ
 nsa:Option Addr
 nsc:Nat
 ns:List ah
def aA.s(s:aA):À := .s s.nsa s.ns.length s.nsc
def aA.cells(s:aA):List À:=[.i s.w,.i s.h]++s.bg.cells++[s.s]
def aA.v(s:aA):À := .agg s.cells.toArray
def aA.key(s:aA):aV:=⟨s.w,s.h,s.bg,s.ns.map ah.key⟩
abbrev yL (K:Nat)(w:Á)(v:À)(l:List ah):Prop:=aI 47 ah.cells w v l∧∀n∈l,dY K w n
def bM(K:Nat)(w:Á)(s:aA):Prop:=I64 s.w∧I64 s.h∧yL K w s.s s.ns
structure aP where
 kind:Int
 id:Int
 index:Int
 depth:Int
 node:ah
 color:bQ
def aP.cells(e:aP):List À:=[.i e.kind,.i e.id,.i e.index,.i e.depth]++e.node.cells++e.color.cells
def aP.v(e:aP):À := .agg e.cells.toArray
def aP.key(e:aP):bH:=⟨e.kind,e.id,e.index,e.depth,e.node.key,e.color⟩
def jd(K:Nat)(w:Á)(e:aP):Prop:=I64 e.kind∧I64 e.id∧I64 e.index∧I64 e.depth∧dY K w e.node
abbrev yL.below{w w':Á}{v:À}{l:List ah}(h:yL K w v l)(hb:Ext w w'):yL K w' v l:=⟨h.1.below hb,λn hn=>(h.2 n hn).below hb⟩
abbrev bM.below{w w':Á}{s:aA}(h:bM K w s)(hb:Ext w w'):bM K w' s:=⟨h.1,h.2.1,h.2.2.below hb⟩
abbrev jd.below{w w':Á}{e:aP}(h:jd K w e)(hb:Ext w w'):jd K w' e:=⟨h.1,h.2.1,h.2.2.1,h.2.2.2.1,h.2.2.2.2.below hb⟩
def aA.zero:aA:=⟨0,0,.none,none,0,[]⟩
abbrev Iy(w:Á):bM K w .zero:=⟨by decide,by decide,⟨iR _ _ _,λn hn=>by cases hn⟩⟩
abbrev Iz(pre:List aN)(x:aN):xk (pre++[x])=if x.kind=1 then x.depth+1 else x.depth:=by
 unfold xk;rw[List.getLast?_concat]
def rV(pre:List aN)(x:aN):Bool:=match pre.getLast? with
 | none=>x.depth==0
 | some p=>(p.kind==1&&x.depth==p.depth+1)||decide (x.depth<=p.depth)
abbrev IB{pre:List aN}{x:aN}(h:x.chk=0):rV pre x=decide (x.depth<=xk pre):=by
 have hd:=(K16 h).2.2.2.2.1;unfold rV xk;cases pre.getLast? with
 | none=>rw[ĩ]; simp only[Û,Ý]; omega
 | some p =>
  rw[ĩ];simp only[ŷ,æ,Û,Ý];split<;>omega
end
end Go.Proofs.Pv
section
namespace Go.Proofs.Pv
open Go.Maps
variable{P:Ø}{k e t:á}{b:Nat}{ids:List Int}{w w':Á}
def mg(P:Ø)(k e:á)(w:Á)(b:Nat)(ids:List Int):Prop:=
 ∃D:DataW Unit,w.ownsMap P k (plainElem P e) b ids.length D∧IsMap D∧∀x:Int,I64 x->D.atKey (.int .i64 x) (.lit (.bool false)) = .lit (.bool (ids.any (· == x)))
abbrev VY(P:Ø)(k e:á)(w:Á):mg P k e (w.alloc (.map #[] 0)) w.heap.size []:=
 ⟨.map [],World.ownsMap_made w P k _,isMap_empty,λx _=>rfl⟩
abbrev wf_i64{x:Int}(h:I64 x):(Lit.int .i64 x).wf=true:=by
 obtain⟨h1,h2⟩:=h;have e1:IntKind.i64.min = -9223372036854775808:=by decide
 have e2:IntKind.i64.max=9223372036854775807:=by decide
 simp[Lit.wf,e1,e2];omega
abbrev AV{H:Type}(he:P.underlying e=some .bool){v:À}{z:DataW H×List MemPlace}(h:plainElem P e v=some z):∃c,v = .bool c∧z=(.lit (.bool c),[]):=by
 unfold plainElem at h;rw[he]at h;cases v<;>simp at h;exact⟨_,I,h.symm⟩
abbrev mg.lt(h:mg P k e w b ids):b<w.heap.size:=by obtain⟨D,h,_⟩:=h; exact h.lt
abbrev mg.kept(h:mg P k e w b ids)(hb:∀i,i=b->w'.heap[i]?=w.heap[i]?):mg P k e w' b ids:=by
 obtain⟨D,⟨es,clock,hB,F,hs,hD⟩,h2,h3⟩:=h;exact⟨D,⟨es,clock,(hb b I).trans hB,F,hs,hD⟩,h2,h3⟩
abbrev mg.lookup(h:mg P k e w b ids)(hk:P.underlying k=some (.int .i64))(he:P.underlying e=some .bool)(ht:P.underlying t=some (.map k e))(hz:(zeroValue e).run P w = .ok (.z) w){x:Int}(hx:I64 x) :
  (Instr.lookup t (.map (some b)) (.i x) false).run P w = .ok (.b (ids.any (· == x))) w:=by
 obtain⟨D,h1,h2,h3⟩:=h;obtain⟨v,ps,hrun,hv⟩:=h1.lookup (int_keyed hk) ht hz (plainElem_bool he false) (keyOf_int_mk hk (wf_i64 hx));obtain⟨c,rfl,hc⟩:=AV he hv;simp only[Ô]at hc;rw[h3 x hx]at hc;obtain⟨hc,-⟩:=hc;cases hc;exact hrun
abbrev mg.update(h:mg P k e w b ids)(hk:P.underlying k=some (.int .i64))(he:P.underlying e=some .bool)(ht:P.underlying t=some (.map k e))(hn:ids.length<maxLen){x:Int}(hx:I64 x) :
  ∃w',(Instr.mapUpdate t (.map (some b)) (.i x) (.b true)).run P w = .ok () w'∧mg P k e w' b (ids++[x])∧w.grownBy w' (some b):=by
 obtain⟨D,h1,h2,h3⟩:=h;obtain⟨w',hrun,ho,hg⟩:=h1.update (int_keyed hk) ht hn (keyOf_int_mk hk (wf_i64 hx)) (plainElem_bool he true);refine⟨w',hrun,⟨D.put (.int .i64 x) (.lit (.bool true)),?_,h2.put _ _,λy hy=>?_⟩,hg⟩
 .rw[ì,azl]; exact ho
 rw[List.any_append,List.any_cons,List.any_nil,Bool.or_false];by_cases hxy:x=y
 .subst hxy;rw[atKey_put_same h2 (k := .int .i64 x) (by first | trivial | simp[WideAt.IsKeyLit])];simp
 rw[atKey_put_other (by simpa using λh=>hxy h.symm),h3 y hy];simp[hxy]
end Go.Proofs.Pv
namespace Go.Sx
open Go.Proofs.Pv Go.RowKit Go.Rel Go.Sx
variable{P:Ø}{k e:á}{b:Nat}{ids:List Int}{w w':Á}
variable{ops:Array Oper}{Q:Exit->Act->Á->Prop}{w0:Á}{a:Act}{os:List Oper}{n:Nat}{l:List (Nat×À)}{bl:List (Nat×List À)}{vs:List eU}
def RI(os:List Oper):Option Nat:=match os with
 | o::_=>(match o.guard,o.dst,o.op with
  | none,some d,.makeMap _ none=>some d
  | _,_,_=>none)
 | []=>none
def lookOf(os:List Oper)(l:List (Nat×À)):Option (á×Nat×Int×Nat):=match os with
 | o::_=>(match o.guard,o.dst,o.op with
  | none,some d,.lookup t x i false=>(match rd (lift l) [] x,rd (lift l) [] i with
   | some (.map (some b)),some (.i z)=>some (t,b,z,d)
   | _,_=>none)
  | _,_,_=>none)
 | []=>none
def ai0(os:List Oper)(l:List (Nat×À)):Option (á×Nat×Int):=match os with
 | o::_=>(match o.guard,o.dst,o.op with
  | none,none,.mapUpdate t x i v=>(match rd (lift l) [] x,rd (lift l) [] i,rd (lift l) [] v with
   | some (.map (some b)),some (.i z),some (.b true)=>some (t,b,z)
   | _,_,_=>none)
  | _,_,_=>none)
 | []=>none
abbrev apt(S:St w0 a w n l bl vs)(d:Nat)(next:∀a' w' b,Ext w w'->b=w.heap.size->(∀k e,mg P k e w' b [])->St w0 a' w' n ((d,.map (some b))::l) bl vs->Ð P ops Q (os.drop 1) a' w')
  (hx:RI os=some d:=by kernel_rfl) (hd:uN n (some d)=true:=by rfl):Ð P ops Q os a w:=by
 unfold RI at hx;split at hx
 .rename_i o os';split at hx
  .rename_i d' t hg hdst hop;cases hx;have hrun:(Ù a.eval o).run P w = .ok (.value (.map (some w.heap.size))) (w.alloc (.map #[] 0)):=by
    unfold Ù;simp only[hop];rfl
   unfold Ð;rw[Ï (by simp[Region.wanted,hg])];left;unfold Oper.wp;rw[hrun];simp only[Oper.upon];have hE:Ext w (w.alloc (.map #[] 0)):=aH _ _;have S1:=S.grow hE;rw[hdst];exact next _ _ w.heap.size hE I (λk e=>VY P k e w) ⟨uf S.s hd _,S1.E,S1.own,S1.apart,S1.mem⟩
  cases hx
 cases hx
abbrev amZ(S:St w0 a w n l bl vs)(d:Nat){t:á}{z:Int}(h:mg P k e w b ids)(hk:P.underlying k=some (.int .i64))(he:P.underlying e=some .bool)(ht:P.underlying t=some (.map k e))(hz:(zeroValue e).run P w = .ok (.z) w)(hi:I64 z)
  (next:∀a',St w0 a' w n ((d,.b (ids.any (· == z)))::l) bl vs->Ð P ops Q (os.drop 1) a' w)
  (hx:lookOf os l=some (t,b,z,d):=by kernel_rfl) (hd:uN n (some d)=true:=by rfl):Ð P ops Q os a w:=by
 unfold lookOf at hx;split at hx
 .rename_i o os';split at hx
  .rename_i d' t' x i hg hdst hop;split at hx
   .rename_i b' z' hxx hii;cases hx;have hR:=gG (bU S.s) o;have hxv:=gK (Std.act a) (hR x (by rw[hop]; simp[Op.operands])) (p:=[]) I hxx;have hyv:=gK (Std.act a) (hR i (by rw[hop]; simp[Op.operands])) (p:=[]) I hii;have hrun:(Ù a.eval o).run P w = .ok (.value (.b (ids.any (· == z)))) w:=by
     unfold Ù;simp only[hop,hxv,hyv,ķ,h.lookup hk he ht hz hi];rfl
    unfold Ð;rw[Ï (by simp[Region.wanted,hg])];left;unfold Oper.wp;rw[hrun];simp only[Oper.upon];rw[hdst];exact next _ (S.act (uf S.s hd _))
   cases hx
  cases hx
 cases hx
abbrev St.apu(S:St w0 a w n l bl vs)(h:mg P k e w b ids)(hb:w0.heap.size<=b)(hg:w.grownBy w' (some b))(h1:bl.all (λp => !p.2.isEmpty)=true)(h2:vs.all (λm => !m.2.2.isEmpty)=true):St w0 a w' n l bl vs:=by
 have hm:∀i,w.cell? ⟨b,i,none⟩=none:=by
  obtain⟨D,⟨es,clock,hB,_⟩,_⟩:=h;intro i;simp[World.cell?,hB]
 have hcell:∀c i,c<w.heap.size->c≠b->w'.cell? ⟨c,i,none⟩=w.cell? ⟨c,i,none⟩:=by
  intro c i hc hne;simp only[World.cell?];rw[hg.block c hc (λe=>hne (Ü e))]
 have am0:∀c i,c<w.heap.size->c≠b->w'.frozen? ⟨c,i,none⟩=w.frozen? ⟨c,i,none⟩:=by
  intro c i hc hne;simp only[World.frozen?];rw[hg.block c hc (λe=>hne (Ü e))]
 have hE:Ext w0 w':=S.E.grown hg S.E.size (λk e=>by cases e; exact hb);refine⟨S.s,hE,λp hp=>?_,S.apart,λm hmm=>?_⟩
 .obtain⟨⟨q1,q2,q3⟩,q4⟩:=S.own p hp;have hne:p.1≠b:=by
   intro e;have h3:=ø.1 h1 p hp;have h4:=q2 0;rw[e,hm 0]at h4;cases hA:p.2 with
   | nil=>rw[hA]at h3; cases h3
   | cons x A=>rw[hA]at h4; simp at h4
  exact⟨⟨ā q1 hg.size,λi=>by rw[hcell _ _ q1 hne]; exact q2 i,λi=>by rw[am0 _ _ q1 hne]; exact q3 i⟩,q4⟩
 obtain⟨⟨q1,q2⟩,q3⟩:=S.mem m hmm;have hne:m.1≠b:=by
  intro e;have h3:=ø.1 h2 m hmm;cases hA:m.2.2 with
  | nil=>rw[hA]at h3; cases h3
  | cons x A =>
   have h4:=q2 0 x (by rw[hA]; rfl);rw[e,hm]at h4;cases h4
 exact⟨⟨ā q1 hg.size,λi v hi=>by rw[hcell _ _ q1 hne]; exact q2 i v hi⟩,q3⟩
abbrev apv(S:St w0 a w n l bl vs){t:á}{z:Int}(h:mg P k e w b ids)(hb:w0.heap.size<=b)(hk:P.underlying k=some (.int .i64))(he:P.underlying e=some .bool)(ht:P.underlying t=some (.map k e))(hn:ids.length<maxLen)(hi:I64 z)
  (next:∀w',mg P k e w' b (ids++[z])->w.grownBy w' (some b)->St w0 a w' n l bl vs->Ð P ops Q (os.drop 1) a w')
  (hx:ai0 os l=some (t,b,z):=by kernel_rfl) (h1:bl.all (λp => !p.2.isEmpty)=true:=by kernel_rfl) (h2:vs.all (λm => !m.2.2.isEmpty)=true:=by kernel_rfl):Ð P ops Q os a w:=by
 unfold ai0 at hx;split at hx
 .rename_i o os';split at hx
  .rename_i t' x i v hg hdst hop;split at hx
   .rename_i b' z' hxx hii hvv;cases hx;have hR:=gG (bU S.s) o;have hxv:=gK (Std.act a) (hR x (by rw[hop]; simp[Op.operands])) (p:=[]) I hxx;have hyv:=gK (Std.act a) (hR i (by rw[hop]; simp[Op.operands])) (p:=[]) I hii;have hzv:=gK (Std.act a) (hR v (by rw[hop]; simp[Op.operands])) (p:=[]) I hvv;obtain⟨w',hrun,h',hg'⟩:=h.update hk he ht hn hi;have hrun:(Ù a.eval o).run P w = .ok .skip w':=by
     unfold Ù;simp only[hop,hxv,hyv,hzv,ķ,hrun];rfl
    unfold Ð;rw[Ï (by simp[Region.wanted,hg])];left;unfold Oper.wp;rw[hrun];simp only[Oper.upon];rw[hdst];exact next _ h' hg' (S.apu h hb hg' h1 h2)
   cases hx
  cases hx
 cases hx
abbrev RJ(h:mg P k e w b ids):On (λi=>i=b) (λw=>mg P k e w b ids) w:=λw' hs hb=>h.kept λi hi=>hb i (by rw[hi]; exact h.lt) hi
end Go.Sx
end
namespace Go.Proofs.Pv
section
open Go.RowKit Go.Sx
variable{α:Type}{K:Nat}
abbrev keys (l:List ah):List aN:=l.map ah.key
variable{x y:ah}{id z:Int}{pre:List aN}{m:List ah}{i:Nat}
abbrev oW{l:List ah}(h:i<l.length):DY (keys l) i=l[i].depth:=by
 rw[CB (by simpa using h)]; simp[keys,ah.key]
abbrev adw(h:0<=z):∃i:Nat,z=(i:Int):=⟨z.toNat,Z⟩
abbrev RN{l:List ah}{k:Nat}(hk:k<l.length)(h:l[k].id=id)(hR:∀(j:Nat) (hj:j<l.length),j<k->l[j].id≠id):jQ (keys l) id=(k:Int):=by
 have:jD (keys l) id=some k:=by
  unfold jD;rw[List.findIdx?_eq_some_iff_getElem];refine⟨by simpa using hk,by simpa[keys,ah.key]using h,λj hj=>?_⟩;have:=hR j Z hj;simpa[keys,ah.key]using this
 unfold jQ; rw[this]
abbrev IC{l:List ah}(hR:∀(j:Nat) (hj:j<l.length),l[j].id≠id):jQ (keys l) id = -1:=by
 have:jD (keys l) id=none:=by
  unfold jD;rw[List.findIdx?_eq_none_iff];intro κ VW;obtain⟨n,hn,rfl⟩:=Ć.1 VW;obtain⟨j,hj,rfl⟩:=List.getElem_of_mem hn;simpa[ah.key]using hR j hj
 unfold jQ; rw[this]
abbrev MC{l:List ah}{k:Nat}(hk:k<l.length)(hR:∀(j:Nat) (hj:j<l.length),j<k->l[j].id≠id)(h:l[k].id≠id):∀(j:Nat) (hj:j<l.length),j<k+1->l[j].id≠id:=λj hj h1=>by
 by_cases e:j=k
 .subst e; exact h
 exact hR j hj Z
abbrev RP{s:aV}(h:((((decide (s.w<1))||(decide (256<s.w)))||(decide (s.h<1)))||(decide (256<s.h)))=true):s.chk=(6,0):=by
 unfold aV.chk;rw[Ï (by simpa[or_assoc]using h)]
abbrev nM{s:aV}(h:((((decide (s.w<1))||(decide (256<s.w)))||(decide (s.h<1)))||(decide (256<s.h)))=false):s.chk=if 64<s.ns.length then (5,64)else jg [] s.ns:=by
 unfold aV.chk;rw[É (by simpa[or_assoc,and_assoc]using h)]
abbrev IE{l:List aN}{k:Nat}(hk:k<l.length):jg (l.take k) (l.drop k)=if gX (l.take k) l[k]=0 then jg (l.take (k+1)) (l.drop (k+1))else (gX (l.take k) l[k],(k:Int)):=by
 rw[Ķ hk,ı hk];conv=>lhs; unfold jg
 rw[Ľ,Ϭ Z]
abbrev D5{l:List ah}{k:Nat}(hk:k<l.length)(hx:l[k]=x):(keys l)[k]'(by simpa using hk)=x.key:=by simp[keys,hx]
abbrev Ox(l:List ah)(k:Nat)(id:Int):((l.take k).map ah.id).any (· == id)=((keys l).take k).any λκ=>κ.id==id:=by
 rw[<-ayW,List.any_map,List.any_map]; rfl
structure uo (l:List ah) (k:Nat) (m:Int):Prop where
 all:jg [] (keys l)=jg ((keys l).take k) ((keys l).drop k)
 room:m=xk ((keys l).take k)
abbrev K08(l:List ah):uo l 0 0:=⟨by simp,I⟩
abbrev uo.bad{l:List ah}{k:Nat}{m n:Int}{x:ah}(h:uo l k m)(hk:k<l.length)(hx:l[k]=x)(hw:gX ((keys l).take k) x.key=n)(hn:n≠0):jg [] (keys l)=(n,(k:Int)):=by
 rw[h.all,IE (by simpa using hk),D5 hk hx,hw,É hn]
abbrev uo.next{l:List ah}{k:Nat}{m m':Int}{x:ah}(h:uo l k m)(hk:k<l.length)(hx:l[k]=x)(hw:gX ((keys l).take k) x.key=0)(hm:m'=if x.kind=1 then x.depth+1 else x.depth):uo l (k+1) m':=by
 have hk':k<(keys l).length:=by simpa using hk
 refine⟨?_,?_⟩
 .rw[h.all,IE hk',D5 hk hx,hw,Ï I]
 rw[ı hk',Iz,D5 hk hx,hm]; rfl
abbrev uo.done{l:List ah}{k:Nat}{m:Int}(h:uo l k m)(hk:l.length<=k):jg [] (keys l)=(0,0):=by
 rw[h.all,Ń (by simpa using hk)]; rfl
abbrev IG(h:x.checkN≠0):gX pre x.key=x.checkN:=by rw[<-qm]at h |-; exact Iw h
abbrev MF(h:x.checkN=0)(h2:pre.any (λκ=>κ.id==x.id)=true):gX pre x.key=7:=by
 unfold gX;rw[qm,h,É Y,Ï (show(pre.any λκ=>κ.id==x.key.id)=true from h2)]
abbrev ER(h:x.checkN=0)(h2:pre.any (λκ=>κ.id==x.id)=false)(h3:xk pre<x.depth):gX pre x.key=17:=by
 unfold gX;rw[qm,h,É Y,É (by rw[show x.key.id=x.id from rfl,h2]; simp),É (by show ¬x.depth<=_; omega)]
abbrev II(h:x.checkN=0)(h2:pre.any (λκ=>κ.id==x.id)=false)(h3:x.depth<=xk pre):gX pre x.key=0:=by
 unfold gX;rw[qm,h,É Y,É (by rw[show x.key.id=x.id from rfl,h2]; simp),Ï (by exact h3)]
abbrev aao(w:Á):(zeroValue 4).run prog w = .ok (.z) w:=nY X
abbrev MG{w:Á}{v:À}{l:List ah}(h:aI 47 ah.cells w v l)(hi:i<l.length)(hz:z=(i:Int)){r:Nat}(hr:r=jV (keys l) i) :
  Ä prog 148 #[v,.i z] w (RF w (.i r)):=by
 subst hz hr;obtain⟨a,cap,rfl⟩:=h.shape;have hmax:l.length<=9223372036854775807:=h.len;refine Ŗ func148 ntmps148 λac S=>Î λ_ ig=>Ç S 1 [] [(4,.i 0)] λS=>Ê<|ig _ _<|Î λ_ Qw=>Ç S 3 [.re 7 (.i (IntKind.i64.wrap ((i:Int)+1))) (.i (i+1:Nat))] [(5,.i (i+1:Nat))] (hk:=⟨ą Z,G⟩) λS=>Ê<|Qw _ _<|ß λ_ κ3=>Ĩ ?_;refine Vp.loop (ι:=Nat) (λp a' w'=>(i<p∧p<=l.length∧∀j,i<j->j<p->DY (keys l) i<DY (keys l) j)∧Sx.St w a' w' 28 [(0,.s a l.length cap),(1,.i i),(4,.i 0),(5,.i p)] [] []) (λp=>l.length-p) ((i+1)) ⟨⟨Z,Z,λj h1 h2=>by omega⟩,S.sn⟩ ?_;rintro k ac u hI;try dsimp only at hI
 obtain⟨hR,S⟩:=hI;refine ß λ_ Χ=>ß (λ_ zy=>?_);rcases ĳ k l.length with hk | hk
 .have ek:decide ((k:Int)<(l.length:Int))=true:=İ Z;obtain⟨b1,o1,c1,hv1,hb1,hr1⟩:=Vp.jR h (λ_=>I) i hi;simp only[Ĉ,true_and]at hv1;obtain⟨rfl,rfl⟩:=hv1;obtain⟨b2,o2,c2,hv2,hb2,hr2⟩:=Vp.jR h (λ_=>I) k hk;simp only[Ĉ,Ò,Ÿ,true_and,and_true]at hv2;obtain⟨⟨rfl,rfl⟩,rfl⟩:=hv2;obtain⟨x,hx⟩:∃z,l[i]=z:=⟨_,I⟩;rw[hx]at hr1;obtain⟨y,hy⟩:∃z,l[k]=z:=⟨_,I⟩;rw[hy]at hr2;have S:=S.view0 hb1 hr1;have S:=S.view0 hb2 hr2;refine Ţ S 17 [.re 11 (.b ((k:Int)<(l.length:Int))) (.b true),.idx k l.length,.M 0 2,.idx i l.length,.M 1 2] [] [(24,.b (x.depth<y.depth))] trivial (hk:=⟨(Ñ Value.b ek),hk,hi,G⟩) λac u E6 S=>Ê (zy _ _ ?_);refine Č S (λkP=>?_) (λkP=>?_)
  .refine ÿ<|Χ _ _<|Ĩ<|ń<|Ç S 3 [.re 26 (.i (IntKind.i64.wrap ((k:Int)+1))) (.i (k+1:Nat))] [(5,.i (k+1:Nat))] (hk:=⟨ą Z,G⟩) λS=>Ê ?_;show ∃i',_∧_;exact⟨(k+1),⟨⟨Z,Z,λj h1 h2=>by
    by_cases e:j=k
    .subst e; rw[oW hi,oW hk,hx,hy]; have:=å kP; omega
    exact hR.2.2 j h1 Z⟩,S.sn⟩,by show l.length-(k+1)<l.length-k; omega⟩
  refine Ņ<|κ3 _ _<|Î λ_ Gq=>Ç S 2 [] [(4,.i k)] λS=>Ê<|Gq _ _<|Rk S results148 ?_;have he:jV (keys l) i=k:=by
   rw[Ir (by simpa using hi)];exact YJ (by simpa using hi) hR.1 (by simpa using hR.2.1) hR.2.2 (λhk=>by rw[oW hi,oW (by simpa using hk),hx,hy]; have:=ñ kP; omega)
  exact⟨by rw[he],S.E⟩
 have ek:decide ((k:Int)<(l.length:Int))=false:=ľ Z;refine Ţ S 17 [.re 11 (.b ((k:Int)<(l.length:Int))) (.z),.dead 13 (.z),.dead 14 (.z),.dead 15 (.z),.dead 16 (.z),.dead 17 (.z),.dead 18 (.z),.dead 19 (.z),.dead 20 (.z),.dead 21 (.z),.dead 22 (.z),.dead 23 (.z)] [] [(24,.z)] trivial (hk:=⟨(Ñ Value.b ek),G⟩) λac u E9 S=>Ê<|zy _ _<|zL S<|Ņ<|κ3 _ _<|Î λ_ wX=>Ç S 2 [] [(4,.i k)] λS=>Ê<|wX _ _<|Rk S results148 ?_;have he:jV (keys l) i=k:=by
  rw[Ir (by simpa using hi)];exact YJ (by simpa using hi) hR.1 (by simpa using hR.2.1) hR.2.2 (λhk2=>by simp at hk2; omega)
 exact⟨by rw[he],S.E⟩
abbrev IJ{w:Á}{v:À}{l:List ah}(h:aI 47 ah.cells w v l) :
  Ä prog 145 #[v,.i id] w (RF w (.i (jQ (keys l) id))):=by
 obtain⟨a,cap,rfl⟩:=h.shape;have hmax:l.length<=9223372036854775807:=h.len;refine Ë func145 ntmps145 λS=>ĕ S (ι:=Nat) (λp a' w'=>p<=l.length∧(∀(j:Nat) (hj:j<l.length),j<p->l[j].id≠id)∧Sx.St w a' w' 20 [(0,.s a l.length cap),(1,.i id),(4,.i 0),(7,.s a l.length cap),(8,.i l.length),(9,.i p)] [] []) (λp=>l.length-p) (0) (λS=>⟨Õ _,λj hj h=>by omega,S.oK⟩) ?_;rintro k ac u ig fC hI;try dsimp only at hI
 obtain⟨hk,hR,S⟩:=hI;refine Ė S λS=>È S (decide ((k:Int)<(l.length:Int))) (λhc6 S=>?_) (λhc6 S=>?_)
 .have ku:k<l.length:=by have:=å hc6; omega
  obtain⟨b9,o10,rfl,x15,pJ,hb16,Ih⟩:=û h (λ_=>I) (k) ku;have S:=S.view0 hb16 Ih;refine Å S 3 [] [.idx k l.length,.M 0 0] (hk:=⟨ku,G⟩) λS=>Í S λu b17 BG aap S=>à S 0 I λu Ia S=>Å S 4 [] [.M 0 0] λS=>È S ((x15.id)==id) (λhc22 S=>?_) (λhc22 S=>?_)
  .refine Æ S (.i k) (λS=>?_);exact⟨by rw[RN ku (by rw[pJ]; simpa using hc22) hR],S.E⟩
  refine Å S 2 [] [.re 19 (.i (IntKind.i64.wrap ((k:Int)+1))) (.i (k+1:Nat))] (hk:=⟨ą Z,G⟩) λS=>ė S ig (λS=>?_);exact fC _ _ (k+1) ⟨Z,(MC ku hR (by rw[pJ]; simpa using hc22)),(S.l9 1).oK⟩ (by show _-_<_-_; omega)
 refine Æ S (.i (-1)) (λS=>?_);have hk:=ñ hc6;exact⟨by rw[IC (λj hj=>hR j hj Z)],S.E⟩
abbrev adx{l:List ah}{k:Nat}(hk:k<l.length)(hx:l[k]=x):(l.take k).map ah.id++[x.id]=(l.take (k+1)).map ah.id:=by
 rw[ı hk,ĥ,hx]; rfl
abbrev ES{w:Á}{s:aA}(h:bM K w s)(hg:bZ w) :
  Ä prog 83 #[s.v] w (RF w (.tuple #[.i s.key.chk.1,.i s.key.chk.2])):=by
 have hmax:s.ns.length<=9223372036854775807:=h.2.2.1.len;refine Ŗ func83 ntmps83 (λac S=>?_);obtain⟨a,cap,es⟩:∃a c,s.s = .s a s.ns.length c:=⟨_,_,I⟩;have hr:=h.2.2.1;rw[es]at hr;refine Î λ_ ig=>ī S 1 s.cells λac u b2 E3 hb4 S=>Ç S 2 [] [(2,.i 0),(3,.i 0)] λS=>Ê<|ig _ _<|ß λ_ zy=>Î λ_ ū=>Ç S 18 [.M 0 0,.M 0 0,.M 0 1,.M 0 1] [(26,.b ((((decide (s.w<1))||(decide (256<s.w)))||(decide (s.h<1)))||(decide (256<s.h))))] λS=>Ê (ū _ _ ?_);refine Č S (λkP=>?_) (λkP=>?_)
 .refine Î λ_ Gq=>Ç S 2 [] [(2,.i 6),(3,.i 0)] λS=>Ê<|Gq _ _<|rt2 S results83 ?_;exact⟨by rw[RP (s:=s.key) kP],S.E⟩
 refine ÿ<|zy _ _<|ß λ_ Ŭ=>Î λ_ wX=>Ç S 4 [.M 0 6,.re 28 s.s (.s a s.ns.length cap)] [(30,.b (64<(s.ns.length:Int)))] (hk:=⟨es,G⟩) λS=>Ê (wX _ _ ?_);refine Č S (λfV=>?_) (λfV=>?_)
 .refine Î λ_ RQ=>Ç S 2 [] [(2,.i 5),(3,.i 64)] λS=>Ê<|RQ _ _<|Ġ ?_;have hq:=nM (s:=s.key) kP;rw[show s.key.ns=keys s.ns from rfl,Ģ]at hq;refine Oy S results83 ?_;exact⟨by rw[hq,Ï (by have:=å fV; omega)],S.E⟩
 refine ÿ<|Ŭ _ _<|Î (λ_ Oz=>?_);have hold:=S.E.size;have atF:=(S.bx 0).1;refine Sx.apt S 31 (λac u b E0 hb hM S=>?_);have R:=ĺ S;have Ϲ:w.heap.size<=b∧b≠b2:=⟨Z,Z⟩;have hMo:Sx.Ow _ (Ob [(b2,s.cells)] []) (λW=>mg prog 3 4 W b []) _:=ſ (Sx.RJ (hM _ _)) λi hi=>by subst hi; exact⟨Ϲ.1,by simpa[Ob]using Ϲ.2⟩
 refine Ç S 1 [] [(4,.map (some b))] λS=>Ê<|Oz _ _<|Î λ_ vZ=>Ç S 1 [] [(5,.i 0)] λS=>Ê<|vZ _ _<|ß λ_ NT=>Î λ_ D6=>Ç S 4 [.M 0 6,.re 33 s.s (.s a s.ns.length cap)] [(33,.s a s.ns.length cap),(34,.i s.ns.length),(35,.i 0)] (hk:=⟨es,G⟩) λS=>Ê<|D6 _ _<|Ĩ ?_;refine Vp.loop (ι:=Nat×Int) (λp a' w'=>p.1<=s.ns.length∧(uo s.ns p.1 p.2)∧Rw w w' [(b2,s.cells)] []∧Sx.Ow w.heap.size (Ob [(b2,s.cells)] []) (λW=>mg prog 3 4 W b ((s.ns.take p.1).map ah.id)) w'∧Sx.St w a' w' 67 [(0,s.v),(1,.q b2 0),(2,.i 0),(3,.i 0),(4,.map (some b)),(5,.i p.2),(33,.s a s.ns.length cap),(34,.i s.ns.length),(35,.i p.1)] [(b2,s.cells)] []) (λp=>s.ns.length-p.1) (0,0) ⟨Õ _,K08 _,R,hMo,S.sn⟩ ?_;rintro⟨k,m⟩ ac u hI;try dsimp only at hI
 obtain⟨hk,hR,R,CO,S⟩:=hI;refine Î λ_ NU=>Ç S 1 [] [(36,.b ((k:Int)<(s.ns.length:Int)))] λS=>Ê<|NU _ _<|ß (λ_ VZ=>?_);refine Č S (λhc19=>?_) (λhc19=>?_)
 .refine ÿ<|VZ _ _<|ß λ_ aaq=>Ĩ<|Î (λ_ ady=>?_);have hMl:=(ü (CO)).lt;have l7:k<s.ns.length:=by have:=å hc19; omega
  obtain⟨b22,o23,rfl,x28,qW,KP,Oi⟩:=û hr (λ_=>I) (k) l7;have hxo:=h.2.2.2 _ (qW▸þ l7);have S:=S.view0 KP Oi;refine Ç S 3 [.idx k s.ns.length,.M 1 0] [(37,.i k),(39,x28.v)] (hk:=⟨l7,G⟩) λS=>ī S 7 (Sx.L [.i 0,.i 0,.i 0]++Sx.za++Sx.L [.sn,.i 0,.u 0,.i 0,.z,.z,.sn,.i 0,.sn,.i 0,.i 0,.i 0,.i 0,.sn,.i 0,.sn,.i 0,.i 0,.sn,.i 0]) λac u b30 DJ Q8 S=>Ç S 1 [] [(6,.i k)] λS=>Ĭ S 0 (off:=0) (cs:=x28.cells) I (λu Yv S=>?_);have hbn:b≠b30:=Z
  refine Ê<|ady _ _<|ß λ_ adz=>Î λ_ OA=>Ç S 1 [.M 0 0] [(40,x28.v)] λS=>zJ S 41 (KT ((h.2.2.2 _ (qW▸þ l7)).below S.E) (hg.below S.E)) λac u Q9 S=>Ç S 1 [] [(8,.i x28.checkN)] λS=>Ê<|OA _ _<|Î λ_ aar=>Ç S 2 [] [(43,.b ((x28.checkN) != 0))] λS=>Ê (aar _ _ ?_);refine Č S (λhc38=>?_) (λhc38=>?_)
  .refine Î λ_ acZ=>Ç S 4 [] [(2,.i x28.checkN),(3,.i k)] λS=>Ê<|acZ _ _<|Ġ ?_;have hq:=nM (s:=s.key) kP;rw[show s.key.ns=keys s.ns from rfl,Ģ]at hq;refine Oy S results83 ?_;rw[É (by have:=ñ fV; omega)]at hq;exact⟨by rw[hq,hR.bad l7 qW (IG (by simpa using hc38)) (by simpa using hc38)],S.E⟩
  refine ÿ<|adz _ _<|ß λ_ aj6=>Î λ_ aj7=>Ç S 3 [.M 0 0] [(46,.map (some b)),(48,.i x28.id)] (λS=>?_);obtain⟨R,Y42⟩:=R.dM S (é (Sx.Stp.FT DJ Q8) (é (Sx.Stp.V3 Yv (by simp[Sx.vb])) (ć Q9)));have hMn:=ü ((Ċ CO Y42));refine Sx.amZ S 49 hMn underlying3 underlying4 underlying194 (aao _) (hxo.1.1) λac S=>Ê (aj7 _ _ ?_);refine Č S (λOB=>?_) (λOB=>?_)
  .refine Î λ_ aas=>Ç S 3 [] [(2,.i 7),(3,.i k)] λS=>Ê<|aas _ _<|Ġ ?_;have hq:=nM (s:=s.key) kP;rw[show s.key.ns=keys s.ns from rfl,Ģ]at hq;refine Oy S results83 ?_;rw[É (by have:=ñ fV; omega)]at hq;exact⟨by rw[hq,hR.bad l7 qW (MF (by simpa using hc38) (by rw[<-Ox]; exact OB)) O],S.E⟩
  refine ÿ<|aj6 _ _<|ß λ_ adA=>Î λ_ adB=>Ç S 4 [.M 0 2] [(54,.b (m<x28.depth))] λS=>Ê (adB _ _ ?_);refine Č S (λhc47=>?_) (λhc47=>?_)
  .refine Î λ_ apw=>Ç S 3 [] [(2,.i 17),(3,.i k)] λS=>Ê<|apw _ _<|Ġ ?_;have hq:=nM (s:=s.key) kP;rw[show s.key.ns=keys s.ns from rfl,Ģ]at hq;refine Oy S results83 ?_;rw[É (by have:=ñ fV; omega)]at hq;exact⟨by rw[hq,hR.bad l7 qW (ER (by simpa using hc38) (by rw[<-Ox]; exact OB) (by have:=å hc47; rw[<-hR.room]; omega)) O],S.E⟩
  refine ÿ<|adA _ _<|Î λ_ apx=>Ç S 3 [.M 0 0] [(56,.map (some b)),(58,.i x28.id)] (λS=>?_);have hMn:=ü ((Ċ CO Y42));refine Sx.apv S hMn (S.E.size |> λ_=>Ϲ.1) underlying3 underlying4 underlying194 (by rw[Ģ,Ľ]; show _<9223372036854775807; omega) hxo.1.1 (λu hM2 hgr S=>?_);have R:=ĺ S;have hMo:Sx.Ow w.heap.size (Ob [(b30,x28.cells),(b2,s.cells)] []) (λW=>mg prog 3 4 W b ((s.ns.take (k+1)).map ah.id)) u:=by
   rw[adx l7 qW]at hM2;exact ſ (Sx.RJ hM2) λi hi=>by subst hi; exact⟨Ϲ.1,by simpa[Ob]using ⟨hbn,Ϲ.2⟩⟩
  refine Ê<|apx _ _<|Î λ_ aj8=>Ç S 3 [.M 0 2] [(5,.i x28.depth)] λS=>Ê<|aj8 _ _<|Î λ_ apy=>Ç S 3 [.M 0 1] [(63,.b ((x28.kind)==1))] λS=>Ê (apy _ _ ?_);refine Č S (λwC=>?_) (λwC=>?_)
  .refine ń<|Ç S 3 [Sx.kw 65 (x28.depth+1)] [(5,.i (x28.depth+1))] (hk:=⟨adC (by have:=qo (n:=x28) (by simpa using hc38); omega),G⟩) λS=>Ê<|aaq _ _<|ń<|Ç S 2 [.re 66 (.i (IntKind.i64.wrap ((k:Int)+1))) (.i (k+1:Nat))] [(35,.i (k+1:Nat))] (hk:=⟨ą Z,G⟩) λS=>Ê ?_;have S:=S.l9 1;obtain⟨R,Y53⟩:=R.dM S (Ω 1);show ∃i',_∧_;exact⟨((k+1),(x28.depth+1)),⟨Z,hR.next l7 qW (II (by simpa using hc38) (by rw[<-Ox]; exact OB) (by have:=ñ hc47; rw[<-hR.room]; omega)) (by rw[Ï (by simpa using wC)]),R,(Ċ hMo Y53),S.sn⟩,by show _-_<_-_; omega⟩
  refine ÿ<|aaq _ _<|ń<|Ç S 2 [.re 66 (.i (IntKind.i64.wrap ((k:Int)+1))) (.i (k+1:Nat))] [(35,.i (k+1:Nat))] (hk:=⟨ą Z,G⟩) λS=>Ê ?_;have S:=S.l9 1;obtain⟨R,Y54⟩:=R.dM S (Ω 1);show ∃i',_∧_;exact⟨((k+1),x28.depth),⟨Z,hR.next l7 qW (II (by simpa using hc38) (by rw[<-Ox]; exact OB) (by have:=ñ hc47; rw[<-hR.room]; omega)) (by rw[É (by simpa using wC)]),R,(Ċ hMo Y54),S.sn⟩,by show _-_<_-_; omega⟩
 refine Ņ<|NT _ _<|Î λ_ adD=>Ç S 2 [] [(2,.i 0),(3,.i 0)] λS=>Ê<|adD _ _<|Ġ ?_;have hq:=nM (s:=s.key) kP;rw[show s.key.ns=keys s.ns from rfl,Ģ]at hq;refine Oy S results83 ?_;rw[É (by have:=ñ fV; omega)]at hq;exact⟨by rw[hq,hR.done (by have:=ñ hc19; omega)],S.E⟩
abbrev dY.eqP{w w':Á}{a b:ah}(h:dY K w a)(h':dY K w' b):a.eqP b=decide (a.key=b.key):=ag6 h.nrm h'.nrm
abbrev V4(c d:bQ):(((c.r.toNat:Int)==d.r.toNat)&&(((c.g.toNat:Int)==d.g.toNat)&&(((c.b.toNat:Int)==d.b.toNat)&&((c.a.toNat:Int)==d.a.toNat))))=decide (c=d):=by
 rw[ĩ];simp only[æ,Û,Oo,Ý];exact YG
abbrev aj9(c d:bQ)(w:Á):(binOp .eql 40 (.agg c.cells.toArray) (.agg d.cells.toArray)).run prog w = .ok (.b (c=d)) w:=by
 rw[<-V4]; exact LW ..
abbrev ai1(a b c d e f g h:Int)(w:Á):(binOp .neq 40 (.agg #[.u a,.u b,.u c,.u d]) (.agg #[.u e,.u f,.u g,.u h])).run prog w = .ok (.b (!((a==e)&&((b==f)&&((c==g)&&(d==h)))))) w:=by
 simp[go_sem];(repeat' split)<;>simp_all
abbrev akb(c d:bQ)(w:Á):(binOp .neq 40 (.agg c.cells.toArray) (.agg d.cells.toArray)).run prog w = .ok (.b (!decide (c=d))) w:=by
 rw[<-V4]; exact ai1 ..
abbrev akc{l:List ah}{k:Nat}(hk:l.length<=k)(h:l.length=m.length)(hR:(keys l).take k=(keys m).take k):true=decide (keys l=keys m):=by
 rw[Ĝ (by simpa using hk),Ĝ (by simpa using (show m.length<=k by omega))]at hR;simp[hR]
abbrev ag8{l:List ah}{k:Nat}(h1:k<l.length)(h2:k<m.length)(hR:(keys l).take k=(keys m).take k)(hx:l[k]=x)(hy:m[k]=y)(h:(!decide (x.key=y.key))=false):(keys l).take (k+1)=(keys m).take (k+1):=by
 rw[ı (by simpa using h1),ı (by simpa using h2),hR,D5 h1 hx,D5 h2 hy];simp at h;rw[h]
abbrev am1{l:List ah}{k:Nat}(h1:k<l.length)(h2:k<m.length)(hx:l[k]=x)(hy:m[k]=y)(h:(!decide (x.key=y.key))=true):false=decide (keys l=keys m):=by
 symm;rw[ð];intro e;have:=Ñ (·[k]?) e;simp only[keys,List.getElem?_map,List.getElem?_eq_getElem h1,List.getElem?_eq_getElem h2,hx,hy,Ę,Ò]at this;simp[this]at h
abbrev am2{s t:aA}(h:((((s.w) != t.w)||((s.h) != t.h))||(!decide (s.bg=t.bg))||((s.ns.length:Int) != (t.ns.length:Int)))=true):false=decide (s.key=t.key):=by
 symm;rw[ð];intro e;simp only[aA.key,aV.mk.injEq]at e;have hl:=Ñ List.length e.2.2.2;simp at hl;simp[e.1,e.2.1,e.2.2.1,hl]at h
abbrev adE{s t:aA}(h:((((s.w) != t.w)||((s.h) != t.h))||(!decide (s.bg=t.bg))||((s.ns.length:Int) != (t.ns.length:Int)))=false):s.ns.length=t.ns.length:=by
 simp at h; omega
abbrev ai2{s t:aA}{b:Bool}(h:((((s.w) != t.w)||((s.h) != t.h))||(!decide (s.bg=t.bg))||((s.ns.length:Int) != (t.ns.length:Int)))=false)(hb:b=decide (keys s.ns=keys t.ns)):b=decide (s.key=t.key):=by
 rw[hb];simp at h;simp[aA.key,h]
abbrev YK{w:Á}{a b:ah}(h:dY K w a)(h':dY K w b):Ä prog 95 #[a.v,b.v] w (RF w (.b (a.key=b.key))):=by
 rw[<-h.eqP h']; exact KO h h'
abbrev xA{w:Á}{s:aA}(h:bM K w s)(hg:bZ w) :
  Ä prog 51 #[s.v] w (RF w (.b s.key.valid)):=by
 skip;refine Ë func51 ntmps51 λS=>Í S λu b2 E3 hb4 S=>Å S 2 [] [.M 0 0] λS=>Þ S (ES (h.below S.E) (hg.below S.E)) λu E6 S=>Æ S (.b ((s.key.chk.1)==0)) (λS=>?_);exact⟨I,S.E⟩
