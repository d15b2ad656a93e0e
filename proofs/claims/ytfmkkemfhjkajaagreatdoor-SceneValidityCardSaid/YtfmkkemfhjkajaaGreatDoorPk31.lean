/- The key of a node: its content with numbers in lowest -/
import Derived.Test.YtfmkkemfhjkajaaGreatDoorE36b
set_option linter.unusedVariables false
namespace Go.Proofs.YtfmkkemfhjkajaaGreatDoor
section
variable{K:Nat}
instance ah0:DecidableEq Q6:=fun P Q=>decidable_of_iff (P.a=Q.a∧P.b=Q.b∧P.c=Q.c∧P.d=Q.d∧P.e=Q.e∧P.f=Q.f) (by
 obtain⟨a,b,c,d,e,f⟩:=P
 obtain⟨a',b',c',d',e',f'⟩:=Q
 simp)
structure U6 where
 w:Int
 h:Int
 l:List dI
deriving DecidableEq
structure FT where
 kind:Int
 color:dI
 p0:kE
 p1:kE
 bG:Int
 stops:List fK
 spread:Int
 img:U6
 cZ:Int
 q:Q6
deriving DecidableEq
structure Ey where
 width:Int
 join:Int
 cap:Int
 dU:Int
 dash:List Int
 phase:Int
deriving DecidableEq
structure aJ where
 id:Int
 kind:Int
 depth:Int
 q:Q6
 clip:List dW
 aO:Int
 eY:UInt8
 blend:Int
 isolated:Bool
 dN:Bool
 path:List dW
 aY:Int
 fill:List FT
 style:Ey
 stroke:List FT
 img:U6
 cZ:Int
deriving DecidableEq
def bU.key(m:bU):U6:=⟨m.w,m.h,m.l⟩
def ak.key(p:ak):FT:=⟨p.kind,p.color,p.p0,p.p1,p.bG,p.stops,p.spread,p.img.key,p.cZ,p.t.q⟩
def aZ.key(p:aZ):Ey:=⟨p.width,p.join,p.cap,p.dU,p.dash,p.phase⟩
def aj.key(n:aj):aJ:=⟨n.id,n.kind,n.depth,n.t.q,n.clip,n.aO,n.eY,n.blend,n.isolated,n.dN,n.path,n.aY,n.fill.map ak.key,n.style.key,n.stroke.map ak.key,n.img.key,n.cZ⟩
theorem KC{a b:UInt8}:(a.toNat:Int)=(b.toNat:Int)↔a=b:=⟨EL,fun h=>by rw[h]⟩
theorem Uh{a b:dI}:(a.r=b.r∧a.g=b.g∧a.b=b.b∧a.a=b.a)↔a=b:=by cases a; cases b; simp
theorem adC{a b:kE}:(a.x=b.x∧a.y=b.y)↔a=b:=by cases a; cases b; simp
theorem KD(m n:bU):m.eq n=decide (m.key=n.key):=by
 rw[Bool.eq_iff_iff]; simp[bU.eq,bU.key]
theorem Ui(p q:aZ):p.eq q=decide (p.key=q.key):=by
 rw[Bool.eq_iff_iff]; simp only[aZ.eq,aZ.key,Ey.mk.injEq,Bool.and_eq_true,beq_iff_eq,decide_eq_true_eq,and_assoc]
 constructor
 ·rintro⟨h1,h2,h3,h4,h5,h6⟩; exact⟨h1,h2,h3,h4,h6,h5⟩
 ·rintro⟨h1,h2,h3,h4,h5,h6⟩; exact⟨h1,h2,h3,h4,h6,h5⟩
theorem Uj(P Q:Q6):P.same Q=decide (P=Q):=by
 obtain⟨a,b,c,d,e,f⟩:=P
 obtain⟨a',b',c',d',e',f'⟩:=Q
 rw[Bool.eq_iff_iff]; simp[Q6.same]
theorem abX{P Q:Q6}(hp:vY P)(hq:vY Q):P.eq Q=decide (P=Q):=by rw[←Q6.same_eq hp hq,Uj]
theorem ak.adD{p q:ak}(hp:vY p.t.q)(hq:vY q.t.q):p.eq q=decide (p.key=q.key):=by
 rw[Bool.eq_iff_iff]
 unfold ak.eq
 rw[abX hp hq,KD]
 simp only[Bool.and_eq_true,beq_iff_eq,decide_eq_true_eq,KC,Uh,adC,ak.key,FT.mk.injEq,and_assoc]
 constructor
 ·rintro⟨h1,h2,h3,h4,h5,h6,h7,h8,h9,h10⟩; exact⟨h1,h2,h3,h4,h5,h8,h6,h9,h7,h10⟩
 ·rintro⟨h1,h2,h3,h4,h5,h6,h7,h8,h9,h10⟩; exact⟨h1,h2,h3,h4,h5,h7,h9,h6,h8,h10⟩
def aa4(l:List ak):Prop:=∀p∈l,vY p.t.q
theorem og:∀{l m:List ak},aa4 l→aa4 m→bQ l m=decide (l.map ak.key=m.map ak.key)
 | [],[],_,_=>by simp[bQ]
 | [],y::m,_,_=>by simp[bQ]
 | x::l,[],_,_=>by simp[bQ]
 | x::l,y::m,hl,hm=>by
  have ih:=og (l:=l) (m:=m) (fun p hp=>hl p (List.mem_cons_of_mem _ hp)) (fun p hp=>hm p (List.mem_cons_of_mem _ hp))
  have e:=ak.adD (hl x List.mem_cons_self) (hm y List.mem_cons_self)
  rw[Bool.eq_iff_iff]at ih e ⊢
  simp only[bQ,List.length_cons,Nat.add_right_cancel_iff,List.zip_cons_cons,List.all_cons,List.map_cons,List.cons.injEq,Bool.and_eq_true,decide_eq_true_eq]at ih e ⊢
  rw[e,←ih]
  constructor
  ·rintro⟨h1,h2,h3⟩; exact⟨h2,h1,h3⟩
  ·rintro⟨h1,h2,h3⟩; exact⟨h2,h1,h3⟩
def aj.nrm(n:aj):Prop:=vY n.t.q∧aa4 n.fill∧aa4 n.stroke
theorem fJ.nrm{w:World}{n:aj}(h:fJ K w n):n.nrm:=
 ⟨(aV.toQ h.1.2.2.2.1 h.2.1).nrm,fun p hp=>(aV.toQ (h.1.2.2.2.2.2.2.2.2.2.1.2 p hp).2.2.2.2.2.2.2.2.2 (h.2.2.1 p hp)).nrm,fun p hp=>(aV.toQ (h.1.2.2.2.2.2.2.2.2.2.2.2.1.2 p hp).2.2.2.2.2.2.2.2.2 (h.2.2.2.1 p hp)).nrm⟩
theorem Oo{a b:Bool}:cond a false b=(!a&&b):=by cases a<;>rfl
theorem aa5{a b:aj}(ha:a.nrm)(hb:b.nrm):a.eqP b=decide (a.key=b.key):=by
 rw[Bool.eq_iff_iff]
 unfold aj.eqP
 rw[abX ha.1 hb.1,og ha.2.1 hb.2.1,og ha.2.2 hb.2.2,KD,Ui]
 simp only[Oo,Bool.and_eq_true,Bool.not_eq_true',Bool.or_eq_false_iff,bne_eq_false_iff_eq,Bool.not_eq_false',beq_iff_eq,decide_eq_true_eq,KC,aj.key,aJ.mk.injEq,and_assoc]
 constructor
 ·rintro⟨h1,h2,h3,h4,h5,h6,h7,h8,h9,h10,h11,h12,h13,SY,h15,h16,h17⟩; exact⟨h1,h2,h3,h11,h12,h4,h5,h6,h7,h8,h13,h9,SY,h16,h15,h17,h10⟩
 ·rintro⟨h1,h2,h3,h11,h12,h4,h5,h6,h7,h8,h13,h9,SY,h16,h15,h17,h10⟩; exact⟨h1,h2,h3,h4,h5,h6,h7,h8,h9,h10,h11,h12,h13,SY,h15,h16,h17⟩
theorem aa6{a b:aj}(ha:a.nrm)(hb:b.nrm):a.eqR b=decide (a.key=b.key):=by
 rw[Bool.eq_iff_iff]
 unfold aj.eqR
 rw[Uj,og ha.2.1 hb.2.1,og ha.2.2 hb.2.2,KD,Ui]
 simp only[Oo,Bool.and_eq_true,Bool.not_eq_true',Bool.or_eq_false_iff,bne_eq_false_iff_eq,Bool.not_eq_false',beq_iff_eq,decide_eq_true_eq,KC,aj.key,aJ.mk.injEq,and_assoc]
 constructor
 ·rintro⟨h1,h2,h3,h11,h4,h9,h10,h5,h6,h7,h8,h12,h13,SY,h15,h16,h17⟩; exact⟨h1,h2,h3,h11,h12,h4,h5,h6,h7,h8,h13,h9,SY,h16,h15,h17,h10⟩
 ·rintro⟨h1,h2,h3,h11,h12,h4,h5,h6,h7,h8,h13,h9,SY,h16,h15,h17,h10⟩; exact⟨h1,h2,h3,h11,h4,h9,h10,h5,h6,h7,h8,h12,h13,SY,h15,h16,h17⟩
theorem FV(n:aj):n.lC=n.style.eq aZ.bare:=by
 rw[Bool.eq_iff_iff]
 unfold aj.lC aZ.eq aZ.bare
 simp only[Bool.and_eq_true,beq_iff_eq,decide_eq_true_eq]
 have h0:((n.style.dash.length:Nat):Int)=0↔n.style.dash=[]:=by
  rw[←List.length_eq_zero_iff]; omega
 rw[h0]
 constructor
 ·rintro⟨⟨⟨⟨⟨h1,h2⟩,h3⟩,h4⟩,h5⟩,h6⟩; exact⟨⟨⟨⟨⟨h1,h2⟩,h3⟩,h4⟩,h6⟩,h5⟩
 ·rintro⟨⟨⟨⟨⟨h1,h2⟩,h3⟩,h4⟩,h6⟩,h5⟩; exact⟨⟨⟨⟨⟨h1,h2⟩,h3⟩,h4⟩,h5⟩,h6⟩
theorem Rn(n:aj):n.qG=(n.img.eq bU.bare&&(n.cZ==0)):=by
 have h0:(((n.img.l.length:Nat):Int)==0)=(n.img.l==[]):=by
  rw[Bool.eq_iff_iff]; simp only[beq_iff_eq]; rw[←List.length_eq_zero_iff]; omega
 unfold aj.qG bU.eq bU.bare
 rw[h0]
 ac_rfl
theorem Ro(n:aj):(!n.qF)=((!((((((n.clip.length:Nat):Int))==0)&&((n.aO)==0))||((decide (0<((n.clip.length:Nat):Int)))&&((n.aO==1)||(n.aO==2)))))||(!(n.bare))):=by
 unfold aj.qF aj.bare
 rw[FV,Rn]
 unfold aj.oZ aj.qH
 generalize n.style.eq aZ.bare=s
 generalize n.img.eq bU.bare=i
 have hn:(decide (0<((n.clip.length:Nat):Int))) = !(((n.clip.length:Nat):Int)==0):=by
  rw[Bool.eq_iff_iff]; simp only[decide_eq_true_eq,Bool.not_eq_true',beq_eq_false_iff_ne]; omega
 rw[hn,show(n.aO != 0) = !(n.aO==0)from rfl]
 cases h1:n.kind==1<;>cases h2:n.kind==2<;>simp only[cond_true,cond_false]
 all_goals
  cases ((n.clip.length:Nat):Int)==0<;>cases n.aO==0<;>cases n.aO==1<;>cases n.aO==2<;>simp[Bool.and_assoc]
theorem Rq(n:aj):n.lV=jY n.uV:=by
 unfold aj.lV aj.uV
 rw[FV]
 have hn:(((n.stroke.length:Nat):Int)==0) = !(decide (0<((n.stroke.length:Nat):Int))):=by
  rw[Bool.eq_iff_iff]; simp only[Bool.not_eq_true',decide_eq_false_iff_not,beq_iff_eq]; omega
 rw[hn]
 simp only[jY,Bool.cond_eq_ite]
theorem Rt(n:aj):n.jL=n.checkN:=by
 unfold aj.jL aj.checkN aj.qc
 rw[Ro,Rq]
 have hq:(kJ n.t.q.vU q0==0)=oC n.t.q.vU q0:=rfl
 rw[hq]
 unfold aj.gJ
 generalize ((!((((((n.clip.length:Nat):Int))==0)&&((n.aO)==0))||((decide (0<((n.clip.length:Nat):Int)))&&((n.aO==1)||(n.aO==2)))))||(!(n.bare)))=f
 generalize ((decide (n.kind<1))||(decide (3<n.kind)))=a
 generalize ((((decide (n.id<1))||(decide (1073741824<n.id)))||(decide (n.depth<0)))||(decide (8≤n.depth)))=b
 generalize jY n.uV=s
 cases h1:n.kind==1<;>cases h2:n.kind==2<;>cases a<;>cases b<;>cases n.t.q.valid<;>cases oC n.t.q.vU q0<;>cases iW n.clip<;>cases f<;>simp[badL,jY,Bool.cond_eq_ite]
 all_goals
  have h1':n.kind=1:=by simpa using h1
  rw[h1']at h2
  simp at h2
end
section
theorem Wi{p q:ak}(h:p.key=q.key):p.valid=q.valid:=by
 obtain⟨k,c,p0,p1,r,sva,svc,st,sp,⟨iw,ih,isa,isc,il⟩,sm,t⟩:=p
 obtain⟨k',c',p0',p1',r',ahg,ahh,st',sp',⟨iw',ih',ahi,ahj,il'⟩,sm',t'⟩:=q
 simp only[ak.key,bU.key,FT.mk.injEq,U6.mk.injEq]at h
 obtain⟨rfl,rfl,rfl,rfl,rfl,rfl,rfl,⟨rfl,rfl,rfl⟩,rfl,ht⟩:=h
 have hw:∀(b:ak),(ak.without ⟨k,c,p0,p1,r,sva,svc,st,sp,⟨iw,ih,isa,isc,il⟩,sm,t⟩).eq b=(ak.without ⟨k,c,p0,p1,r,ahg,ahh,st,sp,⟨iw,ih,ahi,ahj,il⟩,sm,t'⟩).eq b:=by
  intro b
  unfold ak.without
  simp only
  cases k==1<;>cases k==2<;>cases k==3<;>cases k==4<;>simp only[cond_true,cond_false,ak.TU,ak.only2,ak.TV,ak.TW,ak.Y1,ak.eq]<;>rfl
 unfold ak.valid
 simp only[hw,ht]
 rfl
theorem zH:∀{l m:List ak},l.map ak.key=m.map ak.key→l.all ak.valid=m.all ak.valid
 | [],[],_=>rfl
 | [],_::_,h=>by cases h
 | _::_,[],h=>by cases h
 | x::l,y::m,h=>by
  simp only[List.map_cons,List.cons.injEq]at h
  rw[List.all_cons,List.all_cons,Wi h.1,zH h.2]
theorem Ru{a b:aj}(h:a.key=b.key):a.checkN=b.checkN:=by
 simp only[aj.key,aZ.key,bU.key,aJ.mk.injEq,Ey.mk.injEq,U6.mk.injEq]at h
 obtain⟨h1,h2,h3,h4,h5,h6,h7,h8,h9,h10,h11,h12,h13,⟨s1,s2,s3,s4,s5,s6⟩,h15,⟨i1,i2,i3⟩,h17⟩:=h
 have l1:a.fill.length=b.fill.length:=by have:=congrArg List.length h13; simpa using this
 have l2:a.stroke.length=b.stroke.length:=by have:=congrArg List.length h15; simpa using this
 have hs:∀p:aZ,a.style.eq p=b.style.eq p:=fun p=>by unfold aZ.eq; rw[s1,s2,s3,s4,s5,s6]
 have hi:∀m:bU,a.img.eq m=b.img.eq m:=fun m=>by unfold bU.eq; rw[i1,i2,i3]
 have hb:a.bare=b.bare:=by unfold aj.bare; rw[hs,hi,h2,h7,h8,h9,h10,h11,h12,h17,l1,l2]
 have hsv:a.style.valid=b.style.valid:=by unfold aZ.valid; rw[s1,s2,s3,s4,s5,s6]
 have hiv:a.img.valid=b.img.valid:=by unfold bU.valid bU.size; rw[i1,i2,i3]
 have hc:a.gJ=b.gJ:=by unfold aj.gJ; rw[hb,h1,h2,h3,h4,h5,h6]
 have hsh:a.uV=b.uV:=by unfold aj.uV; rw[h11,h12,l1,l2,hsv,hs,zH h13,zH h15]
 unfold aj.checkN aj.qc
 rw[hc,hsh,h2,h8,hiv,h17]
open Classical in
noncomputable def aJ.chk(κ:aJ):Int:=if h:∃n:aj,n.key=κ then h.choose.checkN else 1
theorem nT(n:aj):n.key.chk=n.checkN:=by
 have h:∃m:aj,m.key=n.key:=⟨n,rfl⟩
 unfold aJ.chk
 rw[dif_pos h]
 exact Ru h.choose_spec
theorem FW:∀{l:List (Bool×Int)},(∀p∈l,p.2≠0)→jY l=0→∀p∈l,p.1=false
 | [],_,_,p,hp=>by cases hp
 | q::l,h,h0,p,hp=>by
  unfold jY at h0
  split at h0
  ·exact absurd h0 (h q List.mem_cons_self)
  ·rename_i hq
   rcases List.mem_cons.1 hp with rfl | hp
   ·simpa using hq
   ·exact FW (fun p hp=>h p (List.mem_cons_of_mem _ hp)) h0 p hp
theorem Il(n:aj):∀p∈n.gJ,p.2≠0:=by
 intro p hp
 simp only[aj.gJ,List.mem_cons,List.not_mem_nil,or_false]at hp
 rcases hp with rfl | rfl | rfl | rfl | rfl | rfl
 ·exact(by decide:(2:Int)≠0)
 ·exact(by decide:(6:Int)≠0)
 ·exact(by decide:(5:Int)≠0)
 ·exact(by decide:(9:Int)≠0)
 ·exact(by decide:(10:Int)≠0)
 ·exact(by decide:(17:Int)≠0)
theorem Df{n:aj}(h:n.checkN=0):badL n.gJ=false∧n.qc=0:=by
 unfold aj.checkN at h
 cases hb:badL n.gJ
 ·rw[hb]at h; exact⟨rfl,h⟩
 ·rw[hb,cond_true]at h
  have:=FW (Il n) h
  unfold badL at hb
  obtain⟨p,hp,hp2⟩:=List.any_eq_true.1 hb
  rw[this p hp]at hp2
  cases hp2
theorem qJ{n:aj}(h:n.checkN=0):1≤n.kind∧n.kind≤3∧1≤n.id∧n.id≤1073741824∧0≤n.depth∧n.depth<8:=by
 have hb:=(Df h).1
 simp only[badL,aj.gJ,List.any_cons,Bool.or_eq_false_iff,decide_eq_false_iff_not]at hb
 obtain⟨⟨h1,h2⟩,⟨⟨⟨h3,h4⟩,h5⟩,h6⟩,_⟩:=hb
 omega
theorem Ag{n:aj}(h:n.checkN=0)(d:Int):({n with depth:=d}:aj).checkN=if 0≤d∧d<8 then 0 else 6:=by
 obtain⟨hb,ho⟩:=Df h
 have ho':({n with depth:=d}:aj).qc=0:=ho
 have hcL:({n with depth:=d}:aj).gJ=((decide (n.kind<1))||(decide (3<n.kind)),2)::((((decide (n.id<1))||(decide (1073741824<n.id)))||(decide (d<0)))||(decide (8≤d)),6)::n.gJ.drop 2:=rfl
 have hb2:badL (n.gJ.drop 2)=false:=by
  simp only[badL]at hb ⊢
  rw[show n.gJ=n.gJ.take 2++n.gJ.drop 2 from(List.take_append_drop _ _).symm,List.any_append,Bool.or_eq_false_iff]at hb
  exact hb.2
 have hf:=qJ h
 have e1:((decide (n.kind<1))||(decide (3<n.kind)))=false:=by simp; omega
 have e2:((decide (n.id<1))||(decide (1073741824<n.id)))=false:=by simp; omega
 unfold aj.checkN
 rw[ho',hcL,e1,e2]
 by_cases hd:0≤d∧d<8
 ·have e3:((false||decide (d<0))||decide (8≤d))=false:=by simp; omega
  rw[if_pos hd,e3]
  unfold badL
  rw[List.any_cons,List.any_cons]
  have:(n.gJ.drop 2).any (·.1)=false:=hb2
  rw[this]
  rfl
 ·have e3:((false||decide (d<0))||decide (8≤d))=true:=by simp; omega
  rw[if_neg hd,e3]
  rfl
theorem aJ.Oq{κ:aJ}(h:κ.chk=0):∃n:aj,n.key=κ∧n.checkN=0:=by
 unfold aJ.chk at h
 split at h
 ·rename_i hx; exact⟨hx.choose,hx.choose_spec,h⟩
 ·cases h
theorem aJ.BO{κ:aJ}(h:κ.chk=0):1≤κ.kind∧κ.kind≤3∧1≤κ.id∧κ.id≤1073741824∧0≤κ.depth∧κ.depth<8:=by
 obtain⟨n,rfl,hn⟩:=aJ.Oq h
 exact qJ hn
theorem aJ.Je{κ:aJ}(h:κ.chk=0)(d:Int):({κ with depth:=d}:aJ).chk=if 0≤d∧d<8 then 0 else 6:=by
 obtain⟨n,rfl,hn⟩:=aJ.Oq h
 rw[show({n.key with depth:=d}:aJ)=({n with depth:=d}:aj).key from rfl,nT,Ag hn]
end
section
structure IsTree (n:Nat) (f:Nat→Int):Prop where
  zero:0<n→f 0=0
  nn:∀k,k<n→0≤f k
  step:∀k,k+1<n→f (k+1)≤f k+1
def lH(f:Nat→Int)(d:Int):Nat→Int
  | 0 => -1
  | j+1=>if f j=d then (j:Int)else lH f d j
def iL(f:Nat→Int)(k:Nat):Int:=lH f (f k-1) k
def wV(f:Nat→Int)(d:Int):Nat→Nat→Nat
  | 0,k=>k
  | m+1,k=>if d<f k then wV f d m (k+1)else k
def sD(n:Nat)(f:Nat→Int)(i:Nat):Nat:=wV f (f i) (n-(i+1)) (i+1)
theorem rP{f:Nat→Int}{d:Int}:∀{k j:Nat},lH f d k=(j:Int)→j<k∧f j=d∧∀m,j<m→m<k→f m≠d
  | 0,j,h=>by simp[lH]at h
  | k+1,j,h=>by
    unfold lH at h
    split at h
    · rename_i e
      obtain rfl:k=j:=by omega
      exact⟨by omega,e,fun m h1 h2=>by omega⟩
    · rename_i e
      obtain⟨h1,h2,h3⟩:=rP h
      refine⟨by omega,h2,fun m hm1 hm2=>?_⟩
      by_cases hk:m=k
      · rw[hk]; exact e
      · exact h3 m hm1 (by omega)
theorem FY{f:Nat→Int}{d:Int}:∀{k:Nat},lH f d k = -1→∀m,m<k→f m≠d
  | 0,_,m,hm=>by omega
  | k+1,h,m,hm=>by
    unfold lH at h
    split at h
    · omega
    · rename_i e
      by_cases hk:m=k
      · rw[hk]; exact e
      · exact FY h m (by omega)
theorem sW(f:Nat→Int)(d:Int):∀k:Nat,lH f d k = -1∨∃j:Nat,lH f d k=j
  | 0 => .inl rfl
  | k+1=>by
    unfold lH
    split
    · exact .inr ⟨k,rfl⟩
    · exact sW f d k
theorem Ot{f:Nat→Int}{d:Int}:∀{k j:Nat},j<k→f j=d→(∀m,j<m→m<k→f m≠d)→lH f d k=(j:Int)
  | 0,j,h,_,_=>by omega
  | k+1,j,h,h1,h2=>by
    unfold lH
    by_cases hk:j=k
    · subst hk; rw[if_pos h1]
    · rw[if_neg (h2 k (by omega) (by omega))]
      exact Ot (by omega) h1 fun m hm1 hm2=>h2 m hm1 (by omega)
theorem FZ{f:Nat→Int}{d:Int}:∀(m k:Nat),k≤wV f d m k∧wV f d m k≤k+m∧(∀j,k≤j→j<wV f d m k→d<f j)∧(wV f d m k<k+m→f (wV f d m k)≤d)
  | 0,k=>by simp[wV]; intro j h1 h2; omega
  | m+1,k=>by
    unfold wV
    split
    · rename_i h
      obtain⟨h1,h2,h3,h4⟩:=FZ (f:=f) (d:=d) m (k+1)
      refine⟨by omega,by omega,fun j hj1 hj2=>?_,fun hl=>h4 (by omega)⟩
      by_cases hk:j=k
      · rw[hk]; exact h
      · exact h3 j (by omega) hj2
    · rename_i h
      exact⟨Nat.le_refl _,by omega,fun j h1 h2=>by omega,fun _=>by omega⟩
theorem oU{n i:Nat}{f:Nat→Int}(hi:i<n):i<sD n f i∧sD n f i≤n∧(∀j,i<j→j<sD n f i→f i<f j)∧(sD n f i<n→f (sD n f i)≤f i):=by
  obtain⟨h1,h2,h3,h4⟩:=FZ (f:=f) (d:=f i) (n-(i+1)) (i+1)
  unfold sD
  exact⟨by omega,by omega,fun j hj=>h3 j (by omega),fun h=>h4 (by omega)⟩
theorem Af{n i k:Nat}{f:Nat→Int}(hi:i<n)(h1:i<k)(h2:k≤n)(h3:∀j,i<j→j<k→f i<f j)(h4:k<n→f k≤f i):sD n f i=k:=by
  obtain⟨e1,e2,e3,e4⟩:=oU (f:=f) hi
  rcases Nat.lt_trichotomy (sD n f i) k with h | h | h
  · have:=e4 (by omega); have:=h3 _ e1 h; omega
  · exact h
  · have:=h4 (by omega); have:=e3 k h1 h; omega
theorem IsTree.between{n:Nat}{f:Nat→Int}(T:IsTree n f){k j:Nat}(hk:k<n)(hj:j<k)(hd:f j=f k-1)(hn:∀m,j<m→m<k→f m≠f k-1):∀m,j<m→m<k→f k≤f m:=by
  have key:∀q m,m+q=k→j<m→f k≤f m:=by
    intro q
    induction q with
    | zero => intro m h1 h2; obtain rfl : m = k := by omega
              exact Int.le_refl _
    | succ q ih =>
      intro m h1 h2
      have h3:=ih (m+1) (by omega) (by omega)
      have h4:=T.step m (by omega)
      have h5:=hn m h2 (by omega)
      omega
  intro m h1 h2
  exact key (k-m) m (by omega) h1
theorem IsTree.par_none{n:Nat}{f:Nat→Int}(T:IsTree n f){k:Nat}(hk:k<n):iL f k = -1↔f k=0:=by
  constructor
  · intro h
    have hn:=FY h
    have key:∀q,q≤k→f k≤f (k-q)∨∃m,m<k∧f m=f k-1:=by
      intro q
      induction q with
      | zero=>intro _; exact .inl (Int.le_refl _)
      | succ q ih =>
        intro hq
        rcases ih (by omega)with h1 | h1
        · have h2:=T.step (k-(q+1)) (by omega)
          rw[show k-(q+1)+1=k-q by omega]at h2
          by_cases h3:f (k-(q+1))=f k-1
          · exact .inr ⟨_,by omega,h3⟩
          · exact .inl (by omega)
        · exact .inr h1
    rcases key k (Nat.le_refl _)with h1 | ⟨m,h1,h2⟩
    · rw[Nat.sub_self,T.zero (by omega)]at h1
      have:=T.nn k hk
      omega
    · exact absurd h2 (hn m h1)
  · intro h
    rcases sW f (f k-1) k with h1 | ⟨j,h1⟩
    · exact h1
    · obtain⟨h2,h3,_⟩:=rP h1
      have:=T.nn j (by omega)
      omega
theorem IsTree.Gf{n:Nat}{f:Nat→Int}(T:IsTree n f){k i:Nat}(hk:k<n):iL f k=(i:Int)↔i<k∧k<sD n f i∧f k=f i+1:=by
  constructor
  · intro h
    obtain⟨h1,h2,h3⟩:=rP h
    have hb:=T.between hk h1 h2 h3
    have hi:i<n:=by omega
    obtain⟨e1,e2,e3,e4⟩:=oU (f:=f) hi
    refine⟨h1,?_,by omega⟩
    by_cases h4:k<sD n f i
    · exact h4
    · exfalso
      have h5:=e4 (by omega)
      by_cases h6:sD n f i=k
      · rw[h6]at h5; omega
      · have:=hb _ e1 (by omega); omega
  · rintro⟨h1,h2,h3⟩
    have hi:i<n:=by omega
    obtain⟨e1,e2,e3,e4⟩:=oU (f:=f) hi
    refine Ot h1 (by omega) fun m h4 h5=>?_
    have:=e3 m h4 (by omega)
    omega
theorem IsTree.Rx{f:Nat→Int}{k:Nat}{i:Nat}(h:iL f k=(i:Int)):i<k∧f i=f k-1:=⟨(rP h).1,(rP h).2.1⟩
def Gg(n:Nat)(f:Nat→Int)(i:Int):List Nat:=(List.range n).filter fun k=>iL f k==i
def ku(f:Nat→Int)(a b:Nat)(d:Int):List Nat:=(List.range' a (b-a)).filter fun k=>f k==d
theorem Zj{n:Nat}{f:Nat→Int}(T:IsTree n f):Gg n f (-1)=ku f 0 n 0:=by
  unfold Gg ku
  rw[Nat.sub_zero,←List.range_eq_range']
  refine List.filter_congr fun k hk=>?_
  have hk:=List.mem_range.1 hk
  rw[Bool.eq_iff_iff]
  simp only[beq_iff_eq]
  exact T.par_none hk
theorem Io{p:Nat→Bool}{a b n:Nat}(hb:b≤n)(h:∀k,k<n→p k=true→a≤k∧k<b):(List.range n).filter p=(List.range' a (b-a)).filter p:=by
  by_cases hab:a≤b
  · have e:List.range n=List.range' 0 a++(List.range' a (b-a)++List.range' b (n-b)):=by
      rw[List.range_eq_range']
      have e1:List.range' a (b-a)++List.range' b (n-b)=List.range' a (n-a):=by
        have:=List.range'_append_1 (s:=a) (m:=b-a) (n:=n-b)
        rw[show a+(b-a)=b by omega]at this
        rw[this]; congr 1; omega
      have e2:=List.range'_append_1 (s:=0) (m:=a) (n:=n-a)
      rw[Nat.zero_add]at e2
      rw[e1,e2]; congr 1; omega
    rw[e,List.filter_append,List.filter_append]
    have h1:(List.range' 0 a).filter p=[]:=List.filter_eq_nil_iff.2 fun k hk hp=>by
      obtain⟨hk1,hk2⟩:=List.mem_range'_1.1 hk
      have:=h k (by omega) hp; omega
    have h2:(List.range' b (n-b)).filter p=[]:=List.filter_eq_nil_iff.2 fun k hk hp=>by
      obtain⟨hk1,hk2⟩:=List.mem_range'_1.1 hk
      have:=h k (by omega) hp; omega
    rw[h1,h2]; simp
  · rw[show b-a=0 by omega]
    simp only[List.range'_zero,List.filter_nil]
    exact List.filter_eq_nil_iff.2 fun k hk hp=>by
      have:=h k (List.mem_range.1 hk) hp; omega
theorem Wj{n:Nat}{f:Nat→Int}(T:IsTree n f){i:Nat}(hi:i<n):Gg n f (i:Int)=ku f (i+1) (sD n f i) (f i+1):=by
  obtain⟨e1,e2,e3,e4⟩:=oU (f:=f) hi
  unfold Gg ku
  rw[Io (a:=i+1) (b:=sD n f i) e2 fun k hk hp=>by
    have:=(T.Gf hk).1 (by simpa using hp); omega]
  refine List.filter_congr fun k hk=>?_
  obtain⟨hk1,hk2⟩:=List.mem_range'_1.1 hk
  have hkn:k<n:=by omega
  rw[Bool.eq_iff_iff]
  simp only[beq_iff_eq]
  rw[T.Gf hkn]
  constructor
  · exact fun h=>h.2.2
  · exact fun h=>⟨by omega,by omega,h⟩
def vO(f:Nat→Int):Nat→Nat→List Nat
  | 0,_=>[]
  | m+1,k=>(if iL f k<0 then []else vO f m (iL f k).toNat)++[k]
def oh(f:Nat→Int)(d:Int):Nat→Nat→Nat
  | 0,k=>k
  | m+1,k=>if d<f k then oh f d m (iL f k).toNat else k
theorem IsTree.KE{n:Nat}{f:Nat→Int}(T:IsTree n f){k:Nat}(hk:k<n)(h:0<f k):∃j:Nat,iL f k=j∧j<k∧f j=f k-1:=by
  rcases sW f (f k-1) k with h1 | ⟨j,h1⟩
  · have:=(T.par_none hk).1 h1; omega
  · exact⟨j,h1,IsTree.Rx h1⟩
theorem IsTree.Gh{n:Nat}{f:Nat→Int}(T:IsTree n f):∀(m k:Nat),k<n→f k<m→vO f m k=(List.range ((f k).toNat+1)).map fun d:Nat=>oh f d (f k).toNat k
  | 0,k,hk,h=>by have:=T.nn k hk; omega
  | m+1,k,hk,h=>by
    unfold vO
    rcases Int.lt_or_le 0 (f k)with h0 | h0
    · obtain⟨j,h1,h2,h3⟩:=T.KE hk h0
      rw[h1,if_neg (by omega),Int.toNat_natCast,T.Gh m j (by omega) (by omega)]
      have e:(f k).toNat=(f j).toNat+1:=by have:=T.nn j (by omega); omega
      rw[e,List.range_succ (n:=(f j).toNat+1),List.map_append,List.map_singleton]
      congr 1
      · refine List.map_congr_left fun d hd=>?_
        have hd:=List.mem_range.1 hd
        rw[show oh f d ((f j).toNat+1) k=oh f d (f j).toNat j from by
          show(if (d:Int)<f k then oh f d (f j).toNat (iL f k).toNat else k)=_
          rw[if_pos (by omega),h1,Int.toNat_natCast]]
      · have hx:oh f (((f j).toNat+1:Nat):Int) ((f j).toNat+1) k=k:=by
          show(if (((f j).toNat+1:Nat):Int)<f k then _ else k)=k
          rw[if_neg (by omega)]
        rw[hx]
    · have hz:f k=0:=by have:=T.nn k hk; omega
      rw[(T.par_none hk).2 hz,if_pos (by decide),hz]
      simp[oh]
end
section
structure aP where
 w:Int
 h:Int
 bg:dI
 ns:List aJ
deriving DecidableEq
structure gQ where
 kind:Int
 id:Int
 index:Int
 depth:Int
 node:aJ
 color:dI
deriving DecidableEq
def aP.zero:aP:=⟨0,0,dI.none,[]⟩
def aJ.zero:aJ:=nO.key
def bP(l:List aJ)(k:Nat):Int:=((l[k]?).map aJ.depth).getD 0
def ji(l:List aJ)(id:Int):Option Nat:=l.findIdx? fun κ=>κ.id==id
def iY(l:List aJ)(id:Int):Int:=match ji l id with | some i=>i | none => -1
def nS(pre:List aJ):Int:=match pre.getLast? with | none=>0 | some p=>if p.kind=1 then p.depth+1 else p.depth
noncomputable def fA(pre:List aJ)(x:aJ):Int:=
 if x.chk≠0 then x.chk else if pre.any (fun κ=>κ.id==x.id)then 7 else if x.depth≤nS pre then 0 else 17
noncomputable def iM(pre:List aJ):List aJ→Int×Int
 | []=>(0,0)
 | x::r=>if fA pre x=0 then iM (pre++[x]) r else (fA pre x,pre.length)
noncomputable def aP.chk(s:aP):Int×Int:=
 if s.w<1∨256<s.w∨s.h<1∨256<s.h then (6,0)else if 64<s.ns.length then (5,64)else iM [] s.ns
noncomputable def aP.valid(s:aP):Bool:=s.chk.1==0
def yR(pre:List aJ):List aJ→Prop
 | []=>True
 | x::r=>fA pre x=0∧yR (pre++[x]) r
abbrev VL (l:List aJ):Prop:=yR [] l
theorem AQ:∀{l pre:List aJ},(iM pre l).1=0↔yR pre l
 | [],pre=>by simp[iM,yR]
 | x::r,pre=>by
  unfold iM yR
  split
  ·rename_i h; rw[AQ]; simp[h]
  ·rename_i h; simp[h]
theorem yR.chk:∀{l pre:List aJ},yR pre l→iM pre l=(0,0)
 | [],pre,_=>rfl
 | x::r,pre,h=>by unfold iM; rw[if_pos h.1]; exact h.2.chk
theorem aP.oL{s:aP}:s.valid=true↔(1≤s.w∧s.w≤256∧1≤s.h∧s.h≤256)∧s.ns.length≤64∧VL s.ns:=by
 unfold aP.valid aP.chk
 rw[beq_iff_eq]
 split
 ·rename_i h; constructor
  ·intro h2; cases h2
  ·rintro⟨h2,_⟩; omega
 ·split
  ·constructor
   ·intro h2; cases h2
   ·rintro⟨_,h2,_⟩; omega
  ·rw[AQ]
   constructor
   ·intro h2; exact⟨by omega,by omega,h2⟩
   ·rintro⟨_,_,h2⟩; exact h2
theorem Dh{pre:List aJ}{x:aJ}:fA pre x=0↔x.chk=0∧(∀κ∈pre,κ.id≠x.id)∧x.depth≤nS pre:=by
 unfold fA
 split
 ·rename_i h; exact⟨fun h2=>absurd h2 h,fun h2=>absurd h2.1 h⟩
 ·rename_i h
  split
  ·rename_i h2
   obtain⟨κ,h3,h4⟩:=List.any_eq_true.1 h2
   exact⟨fun h5=>absurd h5 (by decide),fun h5=>absurd (by simpa using h4) (h5.2.1 κ h3)⟩
  ·rename_i h2
   have h3:∀κ∈pre,κ.id≠x.id:=fun κ hκ he=>h2 (List.any_eq_true.2 ⟨κ,hκ,by simpa using he⟩)
   split
   ·rename_i h4; exact⟨fun _=>⟨by simpa using h,h3,h4⟩,fun _=>rfl⟩
   ·rename_i h4; exact⟨fun h5=>absurd h5 (by decide),fun h5=>absurd h5.2.2 h4⟩
theorem Jf:∀{l pre:List aJ},yR pre l↔∀a x b,l=a++x::b→fA (pre++a) x=0
 | [],pre=>⟨fun _ a x b h=>by simp at h,fun _=>trivial⟩
 | y::r,pre=>by
  unfold yR
  rw[Jf (l:=r)]
  constructor
  ·rintro⟨h1,h2⟩ a x b h
   cases a with
   | nil =>
    simp only[List.nil_append,List.cons.injEq]at h
    rw[List.append_nil,←h.1]; exact h1
   | cons z a =>
    simp only[List.cons_append,List.cons.injEq]at h
    rw[h.1]at h2
    rw[show pre++z::a=(pre++[z])++a by simp]
    exact h2 a x b h.2
  ·intro h
   refine⟨by simpa using h [] y r rfl,fun a x b e=>?_⟩
   rw[show(pre++[y])++a=pre++y::a by simp]
   exact h (y::a) x b (by rw[e]; rfl)
theorem KF{l:List aJ}:VL l↔(∀x∈l,x.chk=0)∧(l.map aJ.id).Nodup∧∀a x b,l=a++x::b→x.depth≤nS a:=by
 unfold VL
 rw[Jf]
 simp only[List.nil_append,Dh]
 constructor
 ·intro h
  refine⟨fun x hx=>?_,?_,fun a x b e=>(h a x b e).2.2⟩
  ·obtain⟨a,b,e⟩:=List.append_of_mem hx
   exact(h a x b e).1
  ·rw[List.nodup_iff_pairwise_ne]
   rw[List.pairwise_map]
   have key:∀(l pre:List aJ),(∀a x b,l=a++x::b→∀κ∈pre++a,κ.id≠x.id)→List.Pairwise (fun a b:aJ=>a.id≠b.id) l:=by
    intro l
    induction l with
    | nil=>intro _ _; exact List.Pairwise.nil
    | cons y r ih =>
     intro pre h
     refine List.Pairwise.cons (fun z hz=>?_) (ih (pre++[y]) fun a x b e κ hκ=>h (y::a) x b (by rw[e]; rfl) κ (by simpa using hκ))
     obtain⟨a,b,e⟩:=List.append_of_mem hz
     exact h (y::a) z b (by rw[e]; rfl) y (by simp)
   exact key l [] fun a x b e κ hκ=>(h a x b e).2.1 κ (by simpa using hκ)
 ·rintro⟨h1,h2,h3⟩ a x b e
  refine⟨h1 x (by rw[e]; simp),fun κ hκ he=>?_,h3 a x b e⟩
  rw[e,List.map_append,List.map_cons,List.nodup_append]at h2
  exact h2.2.2 κ.id (List.mem_map.2 ⟨κ,hκ,rfl⟩) x.id List.mem_cons_self he
theorem pq{l:List aJ}{k:Nat}(h:k<l.length):bP l k=l[k].depth:=by simp[bP,List.getElem?_eq_getElem h]
theorem Zk{a:List aJ}{p:aJ}:nS (a++[p])≤p.depth+1:=by
 unfold nS
 rw[List.getLast?_concat]
 simp only
 split<;>omega
theorem VL.tree{l:List aJ}(h:VL l):IsTree l.length (bP l):=by
 obtain⟨h1,h2,h3⟩:=KF.1 h
 have hnn:∀k,k<l.length→0≤bP l k:=fun k hk=>by
  rw[pq hk]; exact(aJ.BO (h1 _ (List.getElem_mem hk))).2.2.2.2.1
 refine⟨fun h0=>?_,hnn,fun k hk=>?_⟩
 ·have:=h3 [] l[0] (l.drop 1) (by rw[List.nil_append,List.getElem_cons_drop]; rfl)
  have h4:=hnn 0 h0
  rw[pq h0]at h4 ⊢
  have h5:nS []=0:=rfl
  omega
 ·have hk':k<l.length:=by omega
  have e:l=l.take (k+1)++l[k+1]::l.drop (k+2):=by rw[List.getElem_cons_drop,List.take_append_drop]
  have:=h3 _ _ _ e
  rw[List.take_succ_eq_append_getElem hk']at this
  have h6:=Zk (a:=l.take k) (p:=l[k])
  rw[pq hk,pq hk']
  omega
end
section
theorem aP.Wn{s:aP}(h:s.valid=true):s.chk=(0,0):=by
 obtain⟨h1,h2,h3⟩:=aP.oL.1 h
 unfold aP.chk
 rw[if_neg (by omega),if_neg (by omega)]
 exact h3.chk
theorem zI{l:List aJ}{id:Int}{i:Nat}(h:ji l id=some i):∃hi:i<l.length,l[i].id=id:=by
 unfold ji at h
 obtain⟨h1,h2,_⟩:=List.findIdx?_eq_some_iff_getElem.1 h
 exact⟨h1,by simpa using h2⟩
theorem Ry{l:List aJ}{id:Int}:ji l id=none↔∀κ∈l,κ.id≠id:=by
 unfold ji
 rw[List.findIdx?_eq_none_iff]
 simp
def eu(l:List aJ)(i:Nat):Nat:=i+1+((l.drop (i+1)).takeWhile fun κ=>decide (bP l i<κ.depth)).length
theorem qL{l:List aJ}{i:Nat}(hi:i<l.length):i+1≤eu l i∧eu l i≤l.length:=by
 unfold eu
 have:=(List.takeWhile_sublist (l:=l.drop (i+1)) fun κ:aJ=>decide (bP l i<κ.depth)).length_le
 rw[List.length_drop]at this
 omega
theorem Ou(l:List aJ)(d:Int):∀m k:Nat,m+k=l.length→wV (bP l) d m k=k+((l.drop k).takeWhile fun κ=>decide (d<κ.depth)).length
 | 0,k,h=>by rw[List.drop_eq_nil_of_le (by omega)]; rfl
 | m+1,k,h=>by
  have hk:k<l.length:=by omega
  unfold wV
  rw[pq hk,←List.getElem_cons_drop hk,List.takeWhile_cons]
  split
  ·rename_i hd
   rw[Ou l d m (k+1) (by omega),if_pos (by simpa using hd),List.length_cons]; omega
  ·rename_i hd
   rw[if_neg (by simpa using hd)]; rfl
theorem rD{l:List aJ}{i:Nat}(hi:i<l.length):eu l i=sD l.length (bP l) i:=by
 unfold eu sD
 rw[Ou l _ _ _ (by omega)]
def gQ.named(e:gQ):Bool:=
 if e.kind=1 then e.id==0&&(e.depth==0&&e.color==dI.none)
 else if e.kind=2 then e.index==0&&(e.depth==0&&(e.node==aJ.zero&&e.color==dI.none))
 else if e.kind=3 then e.node==aJ.zero&&e.color==dI.none
 else if e.kind=4 then e.id==0&&(e.index==0&&(e.depth==0&&e.color==dI.none))
 else if e.kind=5 then e.id==0&&(e.index==0&&(e.depth==0&&e.node==aJ.zero))
 else false
def Gi(l:List aJ)(at':Nat)(more:List aJ):List aJ:=l.take at'++more++l.drop at'
def uq(l:List aJ)(i j:Nat):List aJ:=l.take i++l.drop j
def BP(l:List aJ)(i j:Nat):List aJ:=(l.drop i).take (j-i)
def aJ.Zl(n:aJ)(root to:Int):aJ:={n with depth:=if to<0∨8<to then -1 else n.depth-root+to}
def lY(l:List aJ)(e:gQ):Except Int (List aJ):=
 if e.kind=1 then (if e.index<0∨(l.length:Int)<e.index then .error 6 else .ok (Gi l e.index.toNat [e.node]))
 else if e.kind=2 then (match ji l e.id with | none => .error 8 | some i => .ok (uq l i (eu l i)))
 else if e.kind=3 then (match ji l e.id with
  | none => .error 8
  | some i=>if e.index<0∨((uq l i (eu l i)).length:Int)<e.index then .error 6
   else .ok (Gi (uq l i (eu l i)) e.index.toNat ((BP l i (eu l i)).map fun n=>n.Zl (bP l i) e.depth)))
 else if e.kind=4 then (match ji l e.node.id with
  | none => .error 8
  | some i=>if e.node.depth≠bP l i then .error 2 else .ok (l.set i e.node))
 else .ok l
def aP.with'(s:aP)(e:gQ)(l:List aJ):aP:=⟨s.w,s.h,if e.kind=5 then e.color else s.bg,l⟩
noncomputable def jI(s:aP)(e:gQ):aP×Int:=
 if s.valid=false then (.zero,18)else if e.named=false then (.zero,2)else
 match lY s.ns e with
 | .error n=>(.zero,n)
 | .ok l=>if (s.with' e l).chk.1=0 then (s.with' e l,0)else (.zero,(s.with' e l).chk.1)
theorem U9{s:aP}{e:gQ}{l:List aJ}(h1:s.valid=true)(h2:e.named=true)(h3:lY s.ns e = .ok l)(h4:(s.with' e l).valid=true):jI s e=(s.with' e l,0):=by
 unfold jI
 rw[if_neg (by simp[h1]),if_neg (by simp[h2]),h3]
 simp only
 rw[if_pos (by rw[aP.Wn h4])]
def gQ.remove(id:Int):gQ:=⟨2,id,0,0,.zero,.none⟩
def gQ.replace(n:aJ):gQ:=⟨4,0,0,0,n,.none⟩
noncomputable def fD:aP→List gQ→Nat→aP×Int×Int
 | s,[],k=>(s,k,0)
 | s,e::r,k=>if (jI s e).2=0 then fD (jI s e).1 r (k+1)else (.zero,k,(jI s e).2)
end
end Go.Proofs.YtfmkkemfhjkajaaGreatDoor
