/- The key of a node: its content with numbers in lowest -/
import Derived.Test.YtfmkkemfhjkajaaGreatDoorE36b
set_option linter.unusedVariables false
namespace Go.Proofs.YtfmkkemfhjkajaaGreatDoor
section
variable{K:Nat}
instance al3:DecidableEq Q6:=fun P Q=>decidable_of_iff (P.a=Q.a∧P.b=Q.b∧P.c=Q.c∧P.d=Q.d∧P.e=Q.e∧P.f=Q.f) (by
 obtain⟨a,b,c,d,e,f⟩:=P;obtain⟨a',b',c',d',e',f'⟩:=Q;simp)
structure XD where
 w:Int
 h:Int
 l:List dO
deriving DecidableEq
structure Ic where
 kind:Int
 color:dO
 p0:kZ
 p1:kZ
 bD:Int
 stops:List gu
 spread:Int
 img:XD
 bY:Int
 q:Q6
deriving DecidableEq
structure FY where
 width:Int
 join:Int
 cap:Int
 eF:Int
 dash:List Int
 phase:Int
deriving DecidableEq
structure aF where
 id:Int
 kind:Int
 depth:Int
 q:Q6
 clip:List eH
 aK:Int
 dZ:UInt8
 blend:Int
 isolated:Bool
 dG:Bool
 path:List eH
 aV:Int
 fill:List Ic
 style:FY
 stroke:List Ic
 img:XD
 bY:Int
deriving DecidableEq
def cO.key(m:cO):XD:=⟨m.w,m.h,m.l⟩
def ak.key(p:ak):Ic:=⟨p.kind,p.color,p.p0,p.p1,p.bD,p.stops,p.spread,p.img.key,p.bY,p.t.q⟩
def aW.key(p:aW):FY:=⟨p.width,p.join,p.cap,p.eF,p.dash,p.phase⟩
def aj.key(n:aj):aF:=⟨n.id,n.kind,n.depth,n.t.q,n.clip,n.aK,n.dZ,n.blend,n.isolated,n.dG,n.path,n.aV,n.fill.map ak.key,n.style.key,n.stroke.map ak.key,n.img.key,n.bY⟩
theorem Ns{a b:UInt8}:(a.toNat:Int)=(b.toNat:Int)↔a=b:=⟨Gu,fun h=>by rw[h]⟩
theorem W9{a b:dO}:(a.r=b.r∧a.g=b.g∧a.b=b.b∧a.a=b.a)↔a=b:=by cases a; cases b; simp
theorem agA{a b:kZ}:(a.x=b.x∧a.y=b.y)↔a=b:=by cases a; cases b; simp
theorem Nu(m n:cO):m.eq n=decide (m.key=n.key):=by
 rw[aop]; simp[cO.eq,cO.key]
theorem Xa(p q:aW):p.eq q=decide (p.key=q.key):=by
 rw[aop]; simp only[aW.eq,aW.key,FY.mk.injEq,anM,anO,anT,and_assoc];constructor
 ·rintro⟨h1,h2,h3,h4,h5,h6⟩; exact⟨h1,h2,h3,h4,h6,h5⟩
 rintro⟨h1,h2,h3,h4,h5,h6⟩; exact⟨h1,h2,h3,h4,h6,h5⟩
theorem Xb(P Q:Q6):P.same Q=decide (P=Q):=by
 obtain⟨a,b,c,d,e,f⟩:=P;obtain⟨a',b',c',d',e',f'⟩:=Q;rw[aop]; simp[Q6.same]
theorem aeV{P Q:Q6}(hp:xX P)(hq:xX Q):P.eq Q=decide (P=Q):=by rw[←Q6.same_eq hp hq,Xb]
theorem ak.agB{p q:ak}(hp:xX p.t.q)(hq:xX q.t.q):p.eq q=decide (p.key=q.key):=by
 rw[aop];unfold ak.eq;rw[aeV hp hq,Nu];simp only[anM,anO,anT,Ns,W9,agA,ak.key,Ic.mk.injEq,and_assoc];constructor
 ·rintro⟨h1,h2,h3,h4,h5,h6,h7,h8,h9,h10⟩; exact⟨h1,h2,h3,h4,h5,h8,h6,h9,h7,h10⟩
 rintro⟨h1,h2,h3,h4,h5,h6,h7,h8,h9,h10⟩; exact⟨h1,h2,h3,h4,h5,h7,h9,h6,h8,h10⟩
def ad5(l:List ak):Prop:=∀p∈l,xX p.t.q
theorem pJ:∀{l m:List ak},ad5 l→ad5 m→bV l m=decide (l.map ak.key=m.map ak.key)
 | [],[],_,_=>by simp[bV]
 | [],y::m,_,_=>by simp[bV]
 | x::l,[],_,_=>by simp[bV]
 | x::l,y::m,hl,hm=>by
  have ih:=pJ (l:=l) (m:=m) (fun p hp=>hl p (aot _ hp)) (fun p hp=>hm p (aot _ hp))
  have e:=ak.agB (hl x anK) (hm y anK)
  rw[aop]at ih e ⊢
  simp only[bV,an1,Nat.add_right_cancel_iff,List.zip_cons_cons,apN,aoh,aog,anM,anT]at ih e ⊢
  rw[e,←ih]
  constructor
  ·rintro⟨h1,h2,h3⟩; exact⟨h2,h1,h3⟩
  ·rintro⟨h1,h2,h3⟩; exact⟨h2,h1,h3⟩
def aj.nrm(n:aj):Prop:=xX n.t.q∧ad5 n.fill∧ad5 n.stroke
theorem fV.nrm{w:World}{n:aj}(h:fV K w n):n.nrm:=
 ⟨(aP.toQ h.1.2.2.2.1 h.2.1).nrm,fun p hp=>(aP.toQ (h.1.2.2.2.2.2.2.2.2.2.1.2 p hp).2.2.2.2.2.2.2.2.2 (h.2.2.1 p hp)).nrm,fun p hp=>(aP.toQ (h.1.2.2.2.2.2.2.2.2.2.2.2.1.2 p hp).2.2.2.2.2.2.2.2.2 (h.2.2.2.1 p hp)).nrm⟩
theorem Qy{a b:Bool}:cond a false b=(!a&&b):=by cases a<;>rfl
theorem ad6{a b:aj}(ha:a.nrm)(hb:b.nrm):a.eqP b=decide (a.key=b.key):=by
 rw[aop];unfold aj.eqP;rw[aeV ha.1 hb.1,pJ ha.2.1 hb.2.1,pJ ha.2.2 hb.2.2,Nu,Xa];simp only[Qy,anM,apc,aom,bne_eq_false_iff_eq,ao6,anO,anT,Ns,aj.key,aF.mk.injEq,and_assoc];constructor
 ·rintro⟨h1,h2,h3,h4,h5,h6,h7,h8,h9,h10,h11,h12,h13,VO,h15,h16,h17⟩; exact⟨h1,h2,h3,h11,h12,h4,h5,h6,h7,h8,h13,h9,VO,h16,h15,h17,h10⟩
 rintro⟨h1,h2,h3,h11,h12,h4,h5,h6,h7,h8,h13,h9,VO,h16,h15,h17,h10⟩; exact⟨h1,h2,h3,h4,h5,h6,h7,h8,h9,h10,h11,h12,h13,VO,h15,h16,h17⟩
theorem ad7{a b:aj}(ha:a.nrm)(hb:b.nrm):a.eqR b=decide (a.key=b.key):=by
 rw[aop];unfold aj.eqR;rw[Xb,pJ ha.2.1 hb.2.1,pJ ha.2.2 hb.2.2,Nu,Xa];simp only[Qy,anM,apc,aom,bne_eq_false_iff_eq,ao6,anO,anT,Ns,aj.key,aF.mk.injEq,and_assoc];constructor
 ·rintro⟨h1,h2,h3,h11,h4,h9,h10,h5,h6,h7,h8,h12,h13,VO,h15,h16,h17⟩; exact⟨h1,h2,h3,h11,h12,h4,h5,h6,h7,h8,h13,h9,VO,h16,h15,h17,h10⟩
 rintro⟨h1,h2,h3,h11,h12,h4,h5,h6,h7,h8,h13,h9,VO,h16,h15,h17,h10⟩; exact⟨h1,h2,h3,h11,h4,h9,h10,h5,h6,h7,h8,h12,h13,VO,h15,h16,h17⟩
theorem Ie(n:aj):n.lZ=n.style.eq aW.bare:=by
 rw[aop];unfold aj.lZ aW.eq aW.bare;simp only[anM,anO,anT];have h0:(n.style.dash.length:Int)=0↔n.style.dash=[]:=by
  rw[←List.length_eq_zero_iff]; omega
 rw[h0];constructor
 ·rintro⟨⟨⟨⟨⟨h1,h2⟩,h3⟩,h4⟩,h5⟩,h6⟩; exact⟨⟨⟨⟨⟨h1,h2⟩,h3⟩,h4⟩,h6⟩,h5⟩
 rintro⟨⟨⟨⟨⟨h1,h2⟩,h3⟩,h4⟩,h6⟩,h5⟩; exact⟨⟨⟨⟨⟨h1,h2⟩,h3⟩,h4⟩,h5⟩,h6⟩
theorem UJ(n:aj):n.sG=(n.img.eq cO.bare&&(n.bY==0)):=by
 have h0:((n.img.l.length:Int)==0)=(n.img.l==[]):=by
  rw[aop]; simp only[anO]; rw[←List.length_eq_zero_iff]; omega
 unfold aj.sG cO.eq cO.bare;rw[h0];ac_rfl
theorem UK(n:aj):(!n.sF)=((!(((((n.clip.length:Int))==0)&&((n.aK)==0))||((decide (0<(n.clip.length:Int)))&&((n.aK==1)||(n.aK==2)))))||(!(n.bare))):=by
 unfold aj.sF aj.bare;rw[Ie,UJ];unfold aj.qN aj.sH;generalize n.style.eq aW.bare=s;generalize n.img.eq cO.bare=i;have hn:(decide (0<(n.clip.length:Int))) = !((n.clip.length:Int)==0):=by
  rw[aop]; simp only[anT,apc,anI]; omega
 rw[hn,show(n.aK != 0) = !(n.aK==0)from rfl];cases h1:n.kind==1<;>cases h2:n.kind==2<;>simp only[cond_true,cond_false];all_goals
  cases (n.clip.length:Int)==0<;>cases n.aK==0<;>cases n.aK==1<;>cases n.aK==2<;>simp[apz]
theorem UL(n:aj):n.nH=kV n.xu:=by
 unfold aj.nH aj.xu;rw[Ie];have hn:((n.stroke.length:Int)==0) = !(decide (0<(n.stroke.length:Int))):=by
  rw[aop]; simp only[apc,aoC,anO]; omega
 rw[hn];simp only[kV,Bool.cond_eq_ite]
theorem UM(n:aj):n.kC=n.checkN:=by
 unfold aj.kC aj.checkN aj.rH;rw[UK,UL];have hq:(lD n.t.q.xI q0==0)=pW n.t.q.xI q0:=rfl;rw[hq];unfold aj.iH;generalize ((!(((((n.clip.length:Int))==0)&&((n.aK)==0))||((decide (0<(n.clip.length:Int)))&&((n.aK==1)||(n.aK==2)))))||(!(n.bare)))=f;generalize ((decide (n.kind<1))||(decide (3<n.kind)))=a;generalize ((((decide (n.id<1))||(decide (1073741824<n.id)))||(decide (n.depth<0)))||(decide (8≤n.depth)))=b;generalize kV n.xu=s;cases h1:n.kind==1<;>cases h2:n.kind==2<;>cases a<;>cases b<;>cases n.t.q.valid<;>cases pW n.t.q.xI q0<;>cases jr n.clip<;>cases f<;>simp[badL,kV,Bool.cond_eq_ite];all_goals
  have h1':n.kind=1:=by simpa using h1
  rw[h1']at h2
  simp at h2
end
section
theorem YU{p q:ak}(h:p.key=q.key):p.valid=q.valid:=by
 obtain⟨k,c,p0,p1,r,sva,svc,st,sp,⟨iw,ih,isa,isc,il⟩,sm,t⟩:=p;obtain⟨k',c',p0',p1',r',akU,akV,st',sp',⟨iw',ih',akW,akX,il'⟩,sm',t'⟩:=q;simp only[ak.key,cO.key,Ic.mk.injEq,XD.mk.injEq]at h;obtain⟨rfl,rfl,rfl,rfl,rfl,rfl,rfl,⟨rfl,rfl,rfl⟩,rfl,ht⟩:=h;have hw:∀(b:ak),(ak.without ⟨k,c,p0,p1,r,sva,svc,st,sp,⟨iw,ih,isa,isc,il⟩,sm,t⟩).eq b=(ak.without ⟨k,c,p0,p1,r,akU,akV,st,sp,⟨iw,ih,akW,akX,il⟩,sm,t'⟩).eq b:=by
  intro b;unfold ak.without;simp only;cases k==1<;>cases k==2<;>cases k==3<;>cases k==4<;>simp only[cond_true,cond_false,ak.Wy,ak.only2,ak.WA,ak.WB,ak.abk,ak.eq]<;>rfl
 unfold ak.valid;simp only[hw,ht];rfl
theorem Bd:∀{l m:List ak},l.map ak.key=m.map ak.key→l.all ak.valid=m.all ak.valid
 | [],[],_=>rfl
 | [],_::_,h=>by cases h
 | _::_,[],h=>by cases h
 | x::l,y::m,h=>by
  simp only[aoh,aog]at h
  rw[apN,apN,YU h.1,Bd h.2]
theorem UN{a b:aj}(h:a.key=b.key):a.checkN=b.checkN:=by
 simp only[aj.key,aW.key,cO.key,aF.mk.injEq,FY.mk.injEq,XD.mk.injEq]at h;obtain⟨h1,h2,h3,h4,h5,h6,h7,h8,h9,h10,h11,h12,h13,⟨s1,s2,s3,s4,s5,s6⟩,h15,⟨i1,i2,i3⟩,h17⟩:=h;have l1:a.fill.length=b.fill.length:=by have:=anu List.length h13; simpa using this
 have l2:a.stroke.length=b.stroke.length:=by have:=anu List.length h15; simpa using this
 have hs:∀p:aW,a.style.eq p=b.style.eq p:=fun p=>by unfold aW.eq; rw[s1,s2,s3,s4,s5,s6]
 have hi:∀m:cO,a.img.eq m=b.img.eq m:=fun m=>by unfold cO.eq; rw[i1,i2,i3]
 have hb:a.bare=b.bare:=by unfold aj.bare; rw[hs,hi,h2,h7,h8,h9,h10,h11,h12,h17,l1,l2]
 have hsv:a.style.valid=b.style.valid:=by unfold aW.valid; rw[s1,s2,s3,s4,s5,s6]
 have hiv:a.img.valid=b.img.valid:=by unfold cO.valid cO.size; rw[i1,i2,i3]
 have hc:a.iH=b.iH:=by unfold aj.iH; rw[hb,h1,h2,h3,h4,h5,h6]
 have hsh:a.xu=b.xu:=by unfold aj.xu; rw[h11,h12,l1,l2,hsv,hs,Bd h13,Bd h15]
 unfold aj.checkN aj.rH;rw[hc,hsh,h2,h8,hiv,h17]
open Classical in
noncomputable def aF.chk(κ:aF):Int:=if h:∃n:aj,n.key=κ then h.choose.checkN else 1
theorem pO(n:aj):n.key.chk=n.checkN:=by
 have h:∃m:aj,m.key=n.key:=⟨n,rfl⟩;unfold aF.chk;rw[dif_pos h];exact UN h.choose_spec
theorem Ig:∀{l:List (Bool×Int)},(∀p∈l,p.2≠0)→kV l=0→∀p∈l,p.1=false
 | [],_,_,p,hp=>by cases hp
 | q::l,h,h0,p,hp=>by
  unfold kV at h0
  split at h0
  ·exact absurd h0 (h q anK)
  ·rename_i hq
   rcases anS.1 hp with rfl | hp
   ·simpa using hq
   ·exact Ig (fun p hp=>h p (aot _ hp)) h0 p hp
theorem JL(n:aj):∀p∈n.iH,p.2≠0:=by
 intro p hp;simp only[aj.iH,anS,List.not_mem_nil,or_false]at hp;rcases hp with rfl | rfl | rfl | rfl | rfl | rfl
 ·exact(by decide:(2:Int)≠0)
 ·exact(by decide:(6:Int)≠0)
 ·exact(by decide:(5:Int)≠0)
 ·exact(by decide:(9:Int)≠0)
 ·exact(by decide:(10:Int)≠0)
 exact(by decide:(17:Int)≠0)
theorem Ew{n:aj}(h:n.checkN=0):badL n.iH=false∧n.rH=0:=by
 unfold aj.checkN at h;cases hb:badL n.iH
 ·rw[hb]at h; exact⟨rfl,h⟩
 rw[hb,cond_true]at h;have:=Ig (JL n) h;unfold badL at hb;obtain⟨p,hp,hp2⟩:=apQ.1 hb;rw[this p hp]at hp2;cases hp2
theorem sJ{n:aj}(h:n.checkN=0):1≤n.kind∧n.kind≤3∧1≤n.id∧n.id≤1073741824∧0≤n.depth∧n.depth<8:=by
 have hb:=(Ew h).1;simp only[badL,aj.iH,List.any_cons,aom,aoC]at hb;obtain⟨⟨h1,h2⟩,⟨⟨⟨h3,h4⟩,h5⟩,h6⟩,_⟩:=hb;omega
theorem CQ{n:aj}(h:n.checkN=0)(d:Int):({n with depth:=d}:aj).checkN=if 0≤d∧d<8 then 0 else 6:=by
 obtain⟨hb,ho⟩:=Ew h;have ho':({n with depth:=d}:aj).rH=0:=ho;have hcL:({n with depth:=d}:aj).iH=((decide (n.kind<1))||(decide (3<n.kind)),2)::((((decide (n.id<1))||(decide (1073741824<n.id)))||(decide (d<0)))||(decide (8≤d)),6)::n.iH.drop 2:=rfl;have hb2:badL (n.iH.drop 2)=false:=by
  simp only[badL]at hb ⊢;rw[show n.iH=n.iH.take 2++n.iH.drop 2 from(aoE _ _).symm,List.any_append,aom]at hb;exact hb.2
 have hf:=sJ h;have e1:((decide (n.kind<1))||(decide (3<n.kind)))=false:=by simp; omega
 have e2:((decide (n.id<1))||(decide (1073741824<n.id)))=false:=by simp; omega
 unfold aj.checkN;rw[ho',hcL,e1,e2];by_cases hd:0≤d∧d<8
 ·have e3:((false||decide (d<0))||decide (8≤d))=false:=by simp; omega
  rw[anv hd,e3];unfold badL;rw[List.any_cons,List.any_cons];have:(n.iH.drop 2).any (·.1)=false:=hb2;rw[this];rfl
 have e3:((false||decide (d<0))||decide (8≤d))=true:=by simp; omega
 rw[anq hd,e3];rfl
theorem aF.Qz{κ:aF}(h:κ.chk=0):∃n:aj,n.key=κ∧n.checkN=0:=by
 unfold aF.chk at h;split at h
 ·rename_i hx; exact⟨hx.choose,hx.choose_spec,h⟩
 cases h
theorem aF.DW{κ:aF}(h:κ.chk=0):1≤κ.kind∧κ.kind≤3∧1≤κ.id∧κ.id≤1073741824∧0≤κ.depth∧κ.depth<8:=by
 obtain⟨n,rfl,hn⟩:=aF.Qz h;exact sJ hn
theorem aF.KL{κ:aF}(h:κ.chk=0)(d:Int):({κ with depth:=d}:aF).chk=if 0≤d∧d<8 then 0 else 6:=by
 obtain⟨n,rfl,hn⟩:=aF.Qz h;rw[show({n.key with depth:=d}:aF)=({n with depth:=d}:aj).key from rfl,pO,CQ hn]
end
section
structure IsTree (n:Nat) (f:Nat→Int):Prop where
 zero:0<n→f 0=0
 nn:∀k,k<n→0≤f k
 step:∀k,k+1<n→f (k+1)≤f k+1
def oH(f:Nat→Int)(d:Int):Nat→Int
 | 0 => -1
 | j+1=>if f j=d then (j:Int)else oH f d j
def uK(f:Nat→Int)(k:Nat):Int:=oH f (f k-1) k
def yJ(f:Nat→Int)(d:Int):Nat→Nat→Nat
 | 0,k=>k
 | m+1,k=>if d<f k then yJ f d m (k+1)else k
def wG(n:Nat)(f:Nat→Int)(i:Nat):Nat:=yJ f (f i) (n-(i+1)) (i+1)
theorem uh{f:Nat→Int}{d:Int}:∀{k j:Nat},oH f d k=(j:Int)→j<k∧f j=d∧∀m,j<m→m<k→f m≠d
 | 0,j,h=>by simp[oH]at h
 | k+1,j,h=>by
  unfold oH at h
  split at h
  ·rename_i e
   obtain rfl:k=j:=by omega
   exact⟨by omega,e,fun m h1 h2=>by omega⟩
  ·rename_i e
   obtain⟨h1,h2,h3⟩:=uh h
   refine⟨by omega,h2,fun m hm1 hm2=>?_⟩
   by_cases hk:m=k
   ·rw[hk]; exact e
   ·exact h3 m hm1 (by omega)
theorem Ih{f:Nat→Int}{d:Int}:∀{k:Nat},oH f d k = -1→∀m,m<k→f m≠d
 | 0,_,m,hm=>by omega
 | k+1,h,m,hm=>by
  unfold oH at h
  split at h
  ·omega
  ·rename_i e
   by_cases hk:m=k
   ·rw[hk]; exact e
   ·exact Ih h m (by omega)
theorem yK(f:Nat→Int)(d:Int):∀k:Nat,oH f d k = -1∨∃j:Nat,oH f d k=j
 | 0 => .inl rfl
 | k+1=>by
  unfold oH
  split
  ·exact .inr ⟨k,rfl⟩
  ·exact yK f d k
theorem QA{f:Nat→Int}{d:Int}:∀{k j:Nat},j<k→f j=d→(∀m,j<m→m<k→f m≠d)→oH f d k=(j:Int)
 | 0,j,h,_,_=>by omega
 | k+1,j,h,h1,h2=>by
  unfold oH
  by_cases hk:j=k
  ·subst hk; rw[anv h1]
  ·rw[anq (h2 k (by omega) (by omega))]
   exact QA (by omega) h1 fun m hm1 hm2=>h2 m hm1 (by omega)
theorem Ii{f:Nat→Int}{d:Int}:∀(m k:Nat),k≤yJ f d m k∧yJ f d m k≤k+m∧(∀j,k≤j→j<yJ f d m k→d<f j)∧(yJ f d m k<k+m→f (yJ f d m k)≤d)
 | 0,k=>by simp[yJ]; intro j h1 h2; omega
 | m+1,k=>by
  unfold yJ
  split
  ·rename_i h
   obtain⟨h1,h2,h3,h4⟩:=Ii (f:=f) (d:=d) m (k+1)
   refine⟨by omega,by omega,fun j hj1 hj2=>?_,fun hl=>h4 (by omega)⟩
   by_cases hk:j=k
   ·rw[hk]; exact h
   ·exact h3 j (by omega) hj2
  ·rename_i h
   exact⟨anw _,by omega,fun j h1 h2=>by omega,fun _=>by omega⟩
theorem tq{n i:Nat}{f:Nat→Int}(hi:i<n):i<wG n f i∧wG n f i≤n∧(∀j,i<j→j<wG n f i→f i<f j)∧(wG n f i<n→f (wG n f i)≤f i):=by
 obtain⟨h1,h2,h3,h4⟩:=Ii (f:=f) (d:=f i) (n-(i+1)) (i+1);unfold wG;exact⟨by omega,by omega,fun j hj=>h3 j (by omega),fun h=>h4 (by omega)⟩
theorem Nv{n i k:Nat}{f:Nat→Int}(hi:i<n)(h1:i<k)(h2:k≤n)(h3:∀j,i<j→j<k→f i<f j)(h4:k<n→f k≤f i):wG n f i=k:=by
 obtain⟨e1,e2,e3,e4⟩:=tq (f:=f) hi;rcases ap1 (wG n f i) k with h | h | h
 ·have:=e4 (by omega); have:=h3 _ e1 h; omega
 ·exact h
 have:=h4 (by omega); have:=e3 k h1 h; omega
theorem IsTree.between{n:Nat}{f:Nat→Int}(T:IsTree n f){k j:Nat}(hk:k<n)(hj:j<k)(hd:f j=f k-1)(hn:∀m,j<m→m<k→f m≠f k-1):∀m,j<m→m<k→f k≤f m:=by
 have key:∀q m,m+q=k→j<m→f k≤f m:=by
  intro q;induction q with
  | zero=>intro m h1 h2; obtain rfl:m=k:=(by omega); exact Int.le_refl _
  | succ q ih =>
   intro m h1 h2;have h3:=ih (m+1) (by omega) (by omega);have h4:=T.step m (by omega);have h5:=hn m h2 (by omega);omega
 intro m h1 h2;exact key (k-m) m (by omega) h1
theorem IsTree.par_none{n:Nat}{f:Nat→Int}(T:IsTree n f){k:Nat}(hk:k<n):uK f k = -1↔f k=0:=by
 constructor
 ·intro h;have hn:=Ih h;have key:∀q,q≤k→f k≤f (k-q)∨∃m,m<k∧f m=f k-1:=by
   intro q;induction q with
   | zero=>intro _; exact .inl (Int.le_refl _)
   | succ q ih =>
    intro hq;rcases ih (by omega)with h1 | h1
    ·have h2:=T.step (k-(q+1)) (by omega);rw[show k-(q+1)+1=k-q by omega]at h2;by_cases h3:f (k-(q+1))=f k-1
     ·exact .inr ⟨_,by omega,h3⟩
     exact .inl (by omega)
    exact .inr h1
  rcases key k (anw _)with h1 | ⟨m,h1,h2⟩
  ·rw[apJ,T.zero (by omega)]at h1;have:=T.nn k hk;omega
  exact absurd h2 (hn m h1)
 intro h;rcases yK f (f k-1) k with h1 | ⟨j,h1⟩
 ·exact h1
 obtain⟨h2,h3,_⟩:=uh h1;have:=T.nn j (by omega);omega
theorem IsTree.abT{n:Nat}{f:Nat→Int}(T:IsTree n f){k i:Nat}(hk:k<n):uK f k=(i:Int)↔i<k∧k<wG n f i∧f k=f i+1:=by
 constructor
 ·intro h;obtain⟨h1,h2,h3⟩:=uh h;have hb:=T.between hk h1 h2 h3;have hi:i<n:=by omega
  obtain⟨e1,e2,e3,e4⟩:=tq (f:=f) hi;refine⟨h1,?_,by omega⟩;by_cases h4:k<wG n f i
  ·exact h4
  exfalso;have h5:=e4 (by omega);by_cases h6:wG n f i=k
  ·rw[h6]at h5; omega
  have:=hb _ e1 (by omega); omega
 rintro⟨h1,h2,h3⟩;have hi:i<n:=by omega
 obtain⟨e1,e2,e3,e4⟩:=tq (f:=f) hi;refine QA h1 (by omega) fun m h4 h5=>?_;have:=e3 m h4 (by omega);omega
theorem IsTree.agC{f:Nat→Int}{k:Nat}{i:Nat}(h:uK f k=(i:Int)):i<k∧f i=f k-1:=⟨(uh h).1,(uh h).2.1⟩
def CS(f:Nat→Int):Nat→Nat→List Nat
 | 0,_=>[]
 | m+1,k=>(if uK f k<0 then []else CS f m (uK f k).toNat)++[k]
def Ij(f:Nat→Int)(d:Int):Nat→Nat→Nat
 | 0,k=>k
 | m+1,k=>if d<f k then Ij f d m (uK f k).toNat else k
theorem IsTree.Xc{n:Nat}{f:Nat→Int}(T:IsTree n f){k:Nat}(hk:k<n)(h:0<f k):∃j:Nat,uK f k=j∧j<k∧f j=f k-1:=by
 rcases yK f (f k-1) k with h1 | ⟨j,h1⟩
 ·have:=(T.par_none hk).1 h1; omega
 exact⟨j,h1,IsTree.agC h1⟩
theorem IsTree.abU{n:Nat}{f:Nat→Int}(T:IsTree n f):∀(m k:Nat),k<n→f k<m→CS f m k=(List.range ((f k).toNat+1)).map fun d:Nat=>Ij f d (f k).toNat k
 | 0,k,hk,h=>by have:=T.nn k hk; omega
 | m+1,k,hk,h=>by
  unfold CS
  rcases Int.lt_or_le 0 (f k)with h0 | h0
  ·obtain⟨j,h1,h2,h3⟩:=T.Xc hk h0
   rw[h1,anq (by omega),apW,T.abU m j (by omega) (by omega)]
   have e:(f k).toNat=(f j).toNat+1:=by have:=T.nn j (by omega); omega
   rw[e,List.range_succ (n:=(f j).toNat+1),an6,apY]
   congr 1
   ·refine List.map_congr_left fun d hd=>?_
    have hd:=apb.1 hd
    rw[show Ij f d ((f j).toNat+1) k=Ij f d (f j).toNat j from by
     show(if (d:Int)<f k then Ij f d (f j).toNat (uK f k).toNat else k)=_
     rw[anv (by omega),h1,apW]]
   ·have hx:Ij f (((f j).toNat+1:Nat):Int) ((f j).toNat+1) k=k:=by
     show(if (((f j).toNat+1:Nat):Int)<f k then _ else k)=k
     rw[anq (by omega)]
    rw[hx]
  ·have hz:f k=0:=by have:=T.nn k hk; omega
   rw[(T.par_none hk).2 hz,anv (by decide),hz]
   simp[Ij]
end
end Go.Proofs.YtfmkkemfhjkajaaGreatDoor
