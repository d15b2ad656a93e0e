/- The key of a node: its content with numbers in lowest -/
import Derived.Test.YtfmkkemfhjkajaaGreatDoorE36b
set_option linter.unusedVariables false
namespace Go.Proofs.YtfmkkemfhjkajaaGreatDoor
section
variable{K:Nat}
instance ajx:DecidableEq Q6:=fun P Q=>decidable_of_iff (P.a=Q.a∧P.b=Q.b∧P.c=Q.c∧P.d=Q.d∧P.e=Q.e∧P.f=Q.f) (by
 obtain⟨a,b,c,d,e,f⟩:=P;obtain⟨a',b',c',d',e',f'⟩:=Q;simp)
structure WG where
 w:Int
 h:Int
 l:List bY
deriving DecidableEq
structure He where
 kind:Int
 color:bY
 p0:kU
 p1:kU
 bC:Int
 stops:List fZ
 spread:Int
 img:WG
 bQ:Int
 q:Q6
deriving DecidableEq
structure FD where
 width:Int
 join:Int
 cap:Int
 eu:Int
 dash:List Int
 phase:Int
deriving DecidableEq
structure aI where
 id:Int
 kind:Int
 depth:Int
 q:Q6
 clip:List eG
 aK:Int
 dH:UInt8
 blend:Int
 isolated:Bool
 bM:Bool
 path:List eG
 aQ:Int
 fill:List He
 style:FD
 stroke:List He
 img:WG
 bQ:Int
deriving DecidableEq
def bZ.key(m:bZ):WG:=⟨m.w,m.h,m.l⟩
def ak.key(p:ak):He:=⟨p.kind,p.color,p.p0,p.p1,p.bC,p.stops,p.spread,p.img.key,p.bQ,p.t.q⟩
def aY.key(p:aY):FD:=⟨p.width,p.join,p.cap,p.eu,p.dash,p.phase⟩
def aj.key(n:aj):aI:=⟨n.id,n.kind,n.depth,n.t.q,n.clip,n.aK,n.dH,n.blend,n.isolated,n.bM,n.path,n.aQ,n.fill.map ak.key,n.style.key,n.stroke.map ak.key,n.img.key,n.bQ⟩
theorem LY{a b:UInt8}:(a.toNat:Int)=(b.toNat:Int)↔a=b:=⟨FV,fun h=>by rw[h]⟩
theorem VP{a b:bY}:(a.r=b.r∧a.g=b.g∧a.b=b.b∧a.a=b.a)↔a=b:=by cases a; cases b; simp
theorem ae5{a b:kU}:(a.x=b.x∧a.y=b.y)↔a=b:=by cases a; cases b; simp
theorem LZ(m n:bZ):m.eq n=decide (m.key=n.key):=by
 rw[Bool.eq_iff_iff]; simp[bZ.eq,bZ.key]
theorem VQ(p q:aY):p.eq q=decide (p.key=q.key):=by
 rw[Bool.eq_iff_iff]; simp only[aY.eq,aY.key,FD.mk.injEq,Bool.and_eq_true,beq_iff_eq,decide_eq_true_eq,and_assoc];constructor
 ·rintro⟨h1,h2,h3,h4,h5,h6⟩; exact⟨h1,h2,h3,h4,h6,h5⟩
 rintro⟨h1,h2,h3,h4,h5,h6⟩; exact⟨h1,h2,h3,h4,h6,h5⟩
theorem VR(P Q:Q6):P.same Q=decide (P=Q):=by
 obtain⟨a,b,c,d,e,f⟩:=P;obtain⟨a',b',c',d',e',f'⟩:=Q;rw[Bool.eq_iff_iff]; simp[Q6.same]
theorem adI{P Q:Q6}(hp:xq P)(hq:xq Q):P.eq Q=decide (P=Q):=by rw[←Q6.same_eq hp hq,VR]
theorem ak.ae6{p q:ak}(hp:xq p.t.q)(hq:xq q.t.q):p.eq q=decide (p.key=q.key):=by
 rw[Bool.eq_iff_iff];unfold ak.eq;rw[adI hp hq,LZ];simp only[Bool.and_eq_true,beq_iff_eq,decide_eq_true_eq,LY,VP,ae5,ak.key,He.mk.injEq,and_assoc];constructor
 ·rintro⟨h1,h2,h3,h4,h5,h6,h7,h8,h9,h10⟩; exact⟨h1,h2,h3,h4,h5,h8,h6,h9,h7,h10⟩
 rintro⟨h1,h2,h3,h4,h5,h6,h7,h8,h9,h10⟩; exact⟨h1,h2,h3,h4,h5,h7,h9,h6,h8,h10⟩
def acJ(l:List ak):Prop:=∀p∈l,xq p.t.q
theorem oJ:∀{l m:List ak},acJ l→acJ m→bU l m=decide (l.map ak.key=m.map ak.key)
 | [],[],_,_=>by simp[bU]
 | [],y::m,_,_=>by simp[bU]
 | x::l,[],_,_=>by simp[bU]
 | x::l,y::m,hl,hm=>by
  have ih:=oJ (l:=l) (m:=m) (fun p hp=>hl p (List.mem_cons_of_mem _ hp)) (fun p hp=>hm p (List.mem_cons_of_mem _ hp))
  have e:=ak.ae6 (hl x List.mem_cons_self) (hm y List.mem_cons_self)
  rw[Bool.eq_iff_iff]at ih e ⊢
  simp only[bU,List.length_cons,Nat.add_right_cancel_iff,List.zip_cons_cons,List.all_cons,List.map_cons,List.cons.injEq,Bool.and_eq_true,decide_eq_true_eq]at ih e ⊢
  rw[e,←ih]
  constructor
  ·rintro⟨h1,h2,h3⟩; exact⟨h2,h1,h3⟩
  ·rintro⟨h1,h2,h3⟩; exact⟨h2,h1,h3⟩
def aj.nrm(n:aj):Prop:=xq n.t.q∧acJ n.fill∧acJ n.stroke
theorem eF.nrm{w:World}{n:aj}(h:eF K w n):n.nrm:=
 ⟨(aS.toQ h.1.2.2.2.1 h.2.1).nrm,fun p hp=>(aS.toQ (h.1.2.2.2.2.2.2.2.2.2.1.2 p hp).2.2.2.2.2.2.2.2.2 (h.2.2.1 p hp)).nrm,fun p hp=>(aS.toQ (h.1.2.2.2.2.2.2.2.2.2.2.2.1.2 p hp).2.2.2.2.2.2.2.2.2 (h.2.2.2.1 p hp)).nrm⟩
theorem P5{a b:Bool}:cond a false b=(!a&&b):=by cases a<;>rfl
theorem acK{a b:aj}(ha:a.nrm)(hb:b.nrm):a.eqP b=decide (a.key=b.key):=by
 rw[Bool.eq_iff_iff];unfold aj.eqP;rw[adI ha.1 hb.1,oJ ha.2.1 hb.2.1,oJ ha.2.2 hb.2.2,LZ,VQ];simp only[P5,Bool.and_eq_true,Bool.not_eq_true',Bool.or_eq_false_iff,bne_eq_false_iff_eq,Bool.not_eq_false',beq_iff_eq,decide_eq_true_eq,LY,aj.key,aI.mk.injEq,and_assoc];constructor
 ·rintro⟨h1,h2,h3,h4,h5,h6,h7,h8,h9,h10,h11,h12,h13,QL,h15,h16,h17⟩; exact⟨h1,h2,h3,h11,h12,h4,h5,h6,h7,h8,h13,h9,QL,h16,h15,h17,h10⟩
 rintro⟨h1,h2,h3,h11,h12,h4,h5,h6,h7,h8,h13,h9,QL,h16,h15,h17,h10⟩; exact⟨h1,h2,h3,h4,h5,h6,h7,h8,h9,h10,h11,h12,h13,QL,h15,h16,h17⟩
theorem acL{a b:aj}(ha:a.nrm)(hb:b.nrm):a.eqR b=decide (a.key=b.key):=by
 rw[Bool.eq_iff_iff];unfold aj.eqR;rw[VR,oJ ha.2.1 hb.2.1,oJ ha.2.2 hb.2.2,LZ,VQ];simp only[P5,Bool.and_eq_true,Bool.not_eq_true',Bool.or_eq_false_iff,bne_eq_false_iff_eq,Bool.not_eq_false',beq_iff_eq,decide_eq_true_eq,LY,aj.key,aI.mk.injEq,and_assoc];constructor
 ·rintro⟨h1,h2,h3,h11,h4,h9,h10,h5,h6,h7,h8,h12,h13,QL,h15,h16,h17⟩; exact⟨h1,h2,h3,h11,h12,h4,h5,h6,h7,h8,h13,h9,QL,h16,h15,h17,h10⟩
 rintro⟨h1,h2,h3,h11,h12,h4,h5,h6,h7,h8,h13,h9,QL,h16,h15,h17,h10⟩; exact⟨h1,h2,h3,h11,h4,h9,h10,h5,h6,h7,h8,h12,h13,QL,h15,h16,h17⟩
theorem Hf(n:aj):n.lN=n.style.eq aY.bare:=by
 rw[Bool.eq_iff_iff];unfold aj.lN aY.eq aY.bare;simp only[Bool.and_eq_true,beq_iff_eq,decide_eq_true_eq];have h0:(n.style.dash.length:Int)=0↔n.style.dash=[]:=by
  rw[←List.length_eq_zero_iff]; omega
 rw[h0];constructor
 ·rintro⟨⟨⟨⟨⟨h1,h2⟩,h3⟩,h4⟩,h5⟩,h6⟩; exact⟨⟨⟨⟨⟨h1,h2⟩,h3⟩,h4⟩,h6⟩,h5⟩
 rintro⟨⟨⟨⟨⟨h1,h2⟩,h3⟩,h4⟩,h6⟩,h5⟩; exact⟨⟨⟨⟨⟨h1,h2⟩,h3⟩,h4⟩,h5⟩,h6⟩
theorem TU(n:aj):n.rF=(n.img.eq bZ.bare&&(n.bQ==0)):=by
 have h0:((n.img.l.length:Int)==0)=(n.img.l==[]):=by
  rw[Bool.eq_iff_iff]; simp only[beq_iff_eq]; rw[←List.length_eq_zero_iff]; omega
 unfold aj.rF bZ.eq bZ.bare;rw[h0];ac_rfl
theorem TV(n:aj):(!n.rE)=((!(((((n.clip.length:Int))==0)&&((n.aK)==0))||((decide (0<(n.clip.length:Int)))&&((n.aK==1)||(n.aK==2)))))||(!(n.bare))):=by
 unfold aj.rE aj.bare;rw[Hf,TU];unfold aj.qg aj.rG;generalize n.style.eq aY.bare=s;generalize n.img.eq bZ.bare=i;have hn:(decide (0<(n.clip.length:Int))) = !((n.clip.length:Int)==0):=by
  rw[Bool.eq_iff_iff]; simp only[decide_eq_true_eq,Bool.not_eq_true',beq_eq_false_iff_ne]; omega
 rw[hn,show(n.aK != 0) = !(n.aK==0)from rfl];cases h1:n.kind==1<;>cases h2:n.kind==2<;>simp only[cond_true,cond_false];all_goals
  cases (n.clip.length:Int)==0<;>cases n.aK==0<;>cases n.aK==1<;>cases n.aK==2<;>simp[Bool.and_assoc]
theorem TW(n:aj):n.mM=kP n.vU:=by
 unfold aj.mM aj.vU;rw[Hf];have hn:((n.stroke.length:Int)==0) = !(decide (0<(n.stroke.length:Int))):=by
  rw[Bool.eq_iff_iff]; simp only[Bool.not_eq_true',decide_eq_false_iff_not,beq_iff_eq]; omega
 rw[hn];simp only[kP,Bool.cond_eq_ite]
theorem TY(n:aj):n.kE=n.checkN:=by
 unfold aj.kE aj.checkN aj.qH;rw[TV,TW];have hq:(kZ n.t.q.wU q0==0)=oL n.t.q.wU q0:=rfl;rw[hq];unfold aj.gZ;generalize ((!(((((n.clip.length:Int))==0)&&((n.aK)==0))||((decide (0<(n.clip.length:Int)))&&((n.aK==1)||(n.aK==2)))))||(!(n.bare)))=f;generalize ((decide (n.kind<1))||(decide (3<n.kind)))=a;generalize ((((decide (n.id<1))||(decide (1073741824<n.id)))||(decide (n.depth<0)))||(decide (8≤n.depth)))=b;generalize kP n.vU=s;cases h1:n.kind==1<;>cases h2:n.kind==2<;>cases a<;>cases b<;>cases n.t.q.valid<;>cases oL n.t.q.wU q0<;>cases jf n.clip<;>cases f<;>simp[badL,kP,Bool.cond_eq_ite];all_goals
  have h1':n.kind=1:=by simpa using h1
  rw[h1']at h2
  simp at h2
end
section
theorem X0{p q:ak}(h:p.key=q.key):p.valid=q.valid:=by
 obtain⟨k,c,p0,p1,r,sva,svc,st,sp,⟨iw,ih,isa,isc,il⟩,sm,t⟩:=p;obtain⟨k',c',p0',p1',r',aiC,aiD,st',sp',⟨iw',ih',aiE,aiF,il'⟩,sm',t'⟩:=q;simp only[ak.key,bZ.key,He.mk.injEq,WG.mk.injEq]at h;obtain⟨rfl,rfl,rfl,rfl,rfl,rfl,rfl,⟨rfl,rfl,rfl⟩,rfl,ht⟩:=h;have hw:∀(b:ak),(ak.without ⟨k,c,p0,p1,r,sva,svc,st,sp,⟨iw,ih,isa,isc,il⟩,sm,t⟩).eq b=(ak.without ⟨k,c,p0,p1,r,aiC,aiD,st,sp,⟨iw,ih,aiE,aiF,il⟩,sm,t'⟩).eq b:=by
  intro b;unfold ak.without;simp only;cases k==1<;>cases k==2<;>cases k==3<;>cases k==4<;>simp only[cond_true,cond_false,ak.Vu,ak.only2,ak.Vw,ak.Vx,ak.aar,ak.eq]<;>rfl
 unfold ak.valid;simp only[hw,ht];rfl
theorem Aq:∀{l m:List ak},l.map ak.key=m.map ak.key→l.all ak.valid=m.all ak.valid
 | [],[],_=>rfl
 | [],_::_,h=>by cases h
 | _::_,[],h=>by cases h
 | x::l,y::m,h=>by
  simp only[List.map_cons,List.cons.injEq]at h
  rw[List.all_cons,List.all_cons,X0 h.1,Aq h.2]
theorem Ua{a b:aj}(h:a.key=b.key):a.checkN=b.checkN:=by
 simp only[aj.key,aY.key,bZ.key,aI.mk.injEq,FD.mk.injEq,WG.mk.injEq]at h;obtain⟨h1,h2,h3,h4,h5,h6,h7,h8,h9,h10,h11,h12,h13,⟨s1,s2,s3,s4,s5,s6⟩,h15,⟨i1,i2,i3⟩,h17⟩:=h;have l1:a.fill.length=b.fill.length:=by have:=congrArg List.length h13; simpa using this
 have l2:a.stroke.length=b.stroke.length:=by have:=congrArg List.length h15; simpa using this
 have hs:∀p:aY,a.style.eq p=b.style.eq p:=fun p=>by unfold aY.eq; rw[s1,s2,s3,s4,s5,s6]
 have hi:∀m:bZ,a.img.eq m=b.img.eq m:=fun m=>by unfold bZ.eq; rw[i1,i2,i3]
 have hb:a.bare=b.bare:=by unfold aj.bare; rw[hs,hi,h2,h7,h8,h9,h10,h11,h12,h17,l1,l2]
 have hsv:a.style.valid=b.style.valid:=by unfold aY.valid; rw[s1,s2,s3,s4,s5,s6]
 have hiv:a.img.valid=b.img.valid:=by unfold bZ.valid bZ.size; rw[i1,i2,i3]
 have hc:a.gZ=b.gZ:=by unfold aj.gZ; rw[hb,h1,h2,h3,h4,h5,h6]
 have hsh:a.vU=b.vU:=by unfold aj.vU; rw[h11,h12,l1,l2,hsv,hs,Aq h13,Aq h15]
 unfold aj.checkN aj.qH;rw[hc,hsh,h2,h8,hiv,h17]
open Classical in
noncomputable def aI.chk(κ:aI):Int:=if h:∃n:aj,n.key=κ then h.choose.checkN else 1
theorem oG(n:aj):n.key.chk=n.checkN:=by
 have h:∃m:aj,m.key=n.key:=⟨n,rfl⟩;unfold aI.chk;rw[dif_pos h];exact Ua h.choose_spec
theorem Hg:∀{l:List (Bool×Int)},(∀p∈l,p.2≠0)→kP l=0→∀p∈l,p.1=false
 | [],_,_,p,hp=>by cases hp
 | q::l,h,h0,p,hp=>by
  unfold kP at h0
  split at h0
  ·exact absurd h0 (h q List.mem_cons_self)
  ·rename_i hq
   rcases List.mem_cons.1 hp with rfl | hp
   ·simpa using hq
   ·exact Hg (fun p hp=>h p (List.mem_cons_of_mem _ hp)) h0 p hp
theorem Jg(n:aj):∀p∈n.gZ,p.2≠0:=by
 intro p hp;simp only[aj.gZ,List.mem_cons,List.not_mem_nil,or_false]at hp;rcases hp with rfl | rfl | rfl | rfl | rfl | rfl
 ·exact(by decide:(2:Int)≠0)
 ·exact(by decide:(6:Int)≠0)
 ·exact(by decide:(5:Int)≠0)
 ·exact(by decide:(9:Int)≠0)
 ·exact(by decide:(10:Int)≠0)
 exact(by decide:(17:Int)≠0)
theorem D9{n:aj}(h:n.checkN=0):badL n.gZ=false∧n.qH=0:=by
 unfold aj.checkN at h;cases hb:badL n.gZ
 ·rw[hb]at h; exact⟨rfl,h⟩
 rw[hb,cond_true]at h;have:=Hg (Jg n) h;unfold badL at hb;obtain⟨p,hp,hp2⟩:=List.any_eq_true.1 hb;rw[this p hp]at hp2;cases hp2
theorem rH{n:aj}(h:n.checkN=0):1≤n.kind∧n.kind≤3∧1≤n.id∧n.id≤1073741824∧0≤n.depth∧n.depth<8:=by
 have hb:=(D9 h).1;simp only[badL,aj.gZ,List.any_cons,Bool.or_eq_false_iff,decide_eq_false_iff_not]at hb;obtain⟨⟨h1,h2⟩,⟨⟨⟨h3,h4⟩,h5⟩,h6⟩,_⟩:=hb;omega
theorem Bq{n:aj}(h:n.checkN=0)(d:Int):({n with depth:=d}:aj).checkN=if 0≤d∧d<8 then 0 else 6:=by
 obtain⟨hb,ho⟩:=D9 h;have ho':({n with depth:=d}:aj).qH=0:=ho;have hcL:({n with depth:=d}:aj).gZ=((decide (n.kind<1))||(decide (3<n.kind)),2)::((((decide (n.id<1))||(decide (1073741824<n.id)))||(decide (d<0)))||(decide (8≤d)),6)::n.gZ.drop 2:=rfl;have hb2:badL (n.gZ.drop 2)=false:=by
  simp only[badL]at hb ⊢;rw[show n.gZ=n.gZ.take 2++n.gZ.drop 2 from(List.take_append_drop _ _).symm,List.any_append,Bool.or_eq_false_iff]at hb;exact hb.2
 have hf:=rH h;have e1:((decide (n.kind<1))||(decide (3<n.kind)))=false:=by simp; omega
 have e2:((decide (n.id<1))||(decide (1073741824<n.id)))=false:=by simp; omega
 unfold aj.checkN;rw[ho',hcL,e1,e2];by_cases hd:0≤d∧d<8
 ·have e3:((false||decide (d<0))||decide (8≤d))=false:=by simp; omega
  rw[if_pos hd,e3];unfold badL;rw[List.any_cons,List.any_cons];have:(n.gZ.drop 2).any (·.1)=false:=hb2;rw[this];rfl
 have e3:((false||decide (d<0))||decide (8≤d))=true:=by simp; omega
 rw[if_neg hd,e3];rfl
theorem aI.P6{κ:aI}(h:κ.chk=0):∃n:aj,n.key=κ∧n.checkN=0:=by
 unfold aI.chk at h;split at h
 ·rename_i hx; exact⟨hx.choose,hx.choose_spec,h⟩
 cases h
theorem aI.Du{κ:aI}(h:κ.chk=0):1≤κ.kind∧κ.kind≤3∧1≤κ.id∧κ.id≤1073741824∧0≤κ.depth∧κ.depth<8:=by
 obtain⟨n,rfl,hn⟩:=aI.P6 h;exact rH hn
theorem aI.JR{κ:aI}(h:κ.chk=0)(d:Int):({κ with depth:=d}:aI).chk=if 0≤d∧d<8 then 0 else 6:=by
 obtain⟨n,rfl,hn⟩:=aI.P6 h;rw[show({n.key with depth:=d}:aI)=({n with depth:=d}:aj).key from rfl,oG,Bq hn]
end
section
structure IsTree (n:Nat) (f:Nat→Int):Prop where
 zero:0<n→f 0=0
 nn:∀k,k<n→0≤f k
 step:∀k,k+1<n→f (k+1)≤f k+1
def nH(f:Nat→Int)(d:Int):Nat→Int
 | 0 => -1
 | j+1=>if f j=d then (j:Int)else nH f d j
def tC(f:Nat→Int)(k:Nat):Int:=nH f (f k-1) k
def xY(f:Nat→Int)(d:Int):Nat→Nat→Nat
 | 0,k=>k
 | m+1,k=>if d<f k then xY f d m (k+1)else k
def vI(n:Nat)(f:Nat→Int)(i:Nat):Nat:=xY f (f i) (n-(i+1)) (i+1)
theorem sS{f:Nat→Int}{d:Int}:∀{k j:Nat},nH f d k=(j:Int)→j<k∧f j=d∧∀m,j<m→m<k→f m≠d
 | 0,j,h=>by simp[nH]at h
 | k+1,j,h=>by
  unfold nH at h
  split at h
  ·rename_i e
   obtain rfl:k=j:=by omega
   exact⟨by omega,e,fun m h1 h2=>by omega⟩
  ·rename_i e
   obtain⟨h1,h2,h3⟩:=sS h
   refine⟨by omega,h2,fun m hm1 hm2=>?_⟩
   by_cases hk:m=k
   ·rw[hk]; exact e
   ·exact h3 m hm1 (by omega)
theorem Hl{f:Nat→Int}{d:Int}:∀{k:Nat},nH f d k = -1→∀m,m<k→f m≠d
 | 0,_,m,hm=>by omega
 | k+1,h,m,hm=>by
  unfold nH at h
  split at h
  ·omega
  ·rename_i e
   by_cases hk:m=k
   ·rw[hk]; exact e
   ·exact Hl h m (by omega)
theorem xZ(f:Nat→Int)(d:Int):∀k:Nat,nH f d k = -1∨∃j:Nat,nH f d k=j
 | 0 => .inl rfl
 | k+1=>by
  unfold nH
  split
  ·exact .inr ⟨k,rfl⟩
  ·exact xZ f d k
theorem P7{f:Nat→Int}{d:Int}:∀{k j:Nat},j<k→f j=d→(∀m,j<m→m<k→f m≠d)→nH f d k=(j:Int)
 | 0,j,h,_,_=>by omega
 | k+1,j,h,h1,h2=>by
  unfold nH
  by_cases hk:j=k
  ·subst hk; rw[if_pos h1]
  ·rw[if_neg (h2 k (by omega) (by omega))]
   exact P7 (by omega) h1 fun m hm1 hm2=>h2 m hm1 (by omega)
theorem Ho{f:Nat→Int}{d:Int}:∀(m k:Nat),k≤xY f d m k∧xY f d m k≤k+m∧(∀j,k≤j→j<xY f d m k→d<f j)∧(xY f d m k<k+m→f (xY f d m k)≤d)
 | 0,k=>by simp[xY]; intro j h1 h2; omega
 | m+1,k=>by
  unfold xY
  split
  ·rename_i h
   obtain⟨h1,h2,h3,h4⟩:=Ho (f:=f) (d:=d) m (k+1)
   refine⟨by omega,by omega,fun j hj1 hj2=>?_,fun hl=>h4 (by omega)⟩
   by_cases hk:j=k
   ·rw[hk]; exact h
   ·exact h3 j (by omega) hj2
  ·rename_i h
   exact⟨Nat.le_refl _,by omega,fun j h1 h2=>by omega,fun _=>by omega⟩
theorem rV{n i:Nat}{f:Nat→Int}(hi:i<n):i<vI n f i∧vI n f i≤n∧(∀j,i<j→j<vI n f i→f i<f j)∧(vI n f i<n→f (vI n f i)≤f i):=by
 obtain⟨h1,h2,h3,h4⟩:=Ho (f:=f) (d:=f i) (n-(i+1)) (i+1);unfold vI;exact⟨by omega,by omega,fun j hj=>h3 j (by omega),fun h=>h4 (by omega)⟩
theorem Bo{n i k:Nat}{f:Nat→Int}(hi:i<n)(h1:i<k)(h2:k≤n)(h3:∀j,i<j→j<k→f i<f j)(h4:k<n→f k≤f i):vI n f i=k:=by
 obtain⟨e1,e2,e3,e4⟩:=rV (f:=f) hi;rcases Nat.lt_trichotomy (vI n f i) k with h | h | h
 ·have:=e4 (by omega); have:=h3 _ e1 h; omega
 ·exact h
 have:=h4 (by omega); have:=e3 k h1 h; omega
theorem IsTree.between{n:Nat}{f:Nat→Int}(T:IsTree n f){k j:Nat}(hk:k<n)(hj:j<k)(hd:f j=f k-1)(hn:∀m,j<m→m<k→f m≠f k-1):∀m,j<m→m<k→f k≤f m:=by
 have key:∀q m,m+q=k→j<m→f k≤f m:=by
  intro q;induction q with
  | zero=>intro m h1 h2; obtain rfl:m=k:=(by omega); exact Int.le_refl _
  | succ q ih =>
   intro m h1 h2;have h3:=ih (m+1) (by omega) (by omega);have h4:=T.step m (by omega);have h5:=hn m h2 (by omega);omega
 intro m h1 h2;exact key (k-m) m (by omega) h1
theorem IsTree.par_none{n:Nat}{f:Nat→Int}(T:IsTree n f){k:Nat}(hk:k<n):tC f k = -1↔f k=0:=by
 constructor
 ·intro h;have hn:=Hl h;have key:∀q,q≤k→f k≤f (k-q)∨∃m,m<k∧f m=f k-1:=by
   intro q;induction q with
   | zero=>intro _; exact .inl (Int.le_refl _)
   | succ q ih =>
    intro hq;rcases ih (by omega)with h1 | h1
    ·have h2:=T.step (k-(q+1)) (by omega);rw[show k-(q+1)+1=k-q by omega]at h2;by_cases h3:f (k-(q+1))=f k-1
     ·exact .inr ⟨_,by omega,h3⟩
     exact .inl (by omega)
    exact .inr h1
  rcases key k (Nat.le_refl _)with h1 | ⟨m,h1,h2⟩
  ·rw[Nat.sub_self,T.zero (by omega)]at h1;have:=T.nn k hk;omega
  exact absurd h2 (hn m h1)
 intro h;rcases xZ f (f k-1) k with h1 | ⟨j,h1⟩
 ·exact h1
 obtain⟨h2,h3,_⟩:=sS h1;have:=T.nn j (by omega);omega
theorem IsTree.aaX{n:Nat}{f:Nat→Int}(T:IsTree n f){k i:Nat}(hk:k<n):tC f k=(i:Int)↔i<k∧k<vI n f i∧f k=f i+1:=by
 constructor
 ·intro h;obtain⟨h1,h2,h3⟩:=sS h;have hb:=T.between hk h1 h2 h3;have hi:i<n:=by omega
  obtain⟨e1,e2,e3,e4⟩:=rV (f:=f) hi;refine⟨h1,?_,by omega⟩;by_cases h4:k<vI n f i
  ·exact h4
  exfalso;have h5:=e4 (by omega);by_cases h6:vI n f i=k
  ·rw[h6]at h5; omega
  have:=hb _ e1 (by omega); omega
 rintro⟨h1,h2,h3⟩;have hi:i<n:=by omega
 obtain⟨e1,e2,e3,e4⟩:=rV (f:=f) hi;refine P7 h1 (by omega) fun m h4 h5=>?_;have:=e3 m h4 (by omega);omega
theorem IsTree.ae7{f:Nat→Int}{k:Nat}{i:Nat}(h:tC f k=(i:Int)):i<k∧f i=f k-1:=⟨(sS h).1,(sS h).2.1⟩
def BR(f:Nat→Int):Nat→Nat→List Nat
 | 0,_=>[]
 | m+1,k=>(if tC f k<0 then []else BR f m (tC f k).toNat)++[k]
def Hq(f:Nat→Int)(d:Int):Nat→Nat→Nat
 | 0,k=>k
 | m+1,k=>if d<f k then Hq f d m (tC f k).toNat else k
theorem IsTree.VT{n:Nat}{f:Nat→Int}(T:IsTree n f){k:Nat}(hk:k<n)(h:0<f k):∃j:Nat,tC f k=j∧j<k∧f j=f k-1:=by
 rcases xZ f (f k-1) k with h1 | ⟨j,h1⟩
 ·have:=(T.par_none hk).1 h1; omega
 exact⟨j,h1,IsTree.ae7 h1⟩
theorem IsTree.aaY{n:Nat}{f:Nat→Int}(T:IsTree n f):∀(m k:Nat),k<n→f k<m→BR f m k=(List.range ((f k).toNat+1)).map fun d:Nat=>Hq f d (f k).toNat k
 | 0,k,hk,h=>by have:=T.nn k hk; omega
 | m+1,k,hk,h=>by
  unfold BR
  rcases Int.lt_or_le 0 (f k)with h0 | h0
  ·obtain⟨j,h1,h2,h3⟩:=T.VT hk h0
   rw[h1,if_neg (by omega),Int.toNat_natCast,T.aaY m j (by omega) (by omega)]
   have e:(f k).toNat=(f j).toNat+1:=by have:=T.nn j (by omega); omega
   rw[e,List.range_succ (n:=(f j).toNat+1),List.map_append,List.map_singleton]
   congr 1
   ·refine List.map_congr_left fun d hd=>?_
    have hd:=List.mem_range.1 hd
    rw[show Hq f d ((f j).toNat+1) k=Hq f d (f j).toNat j from by
     show(if (d:Int)<f k then Hq f d (f j).toNat (tC f k).toNat else k)=_
     rw[if_pos (by omega),h1,Int.toNat_natCast]]
   ·have hx:Hq f (((f j).toNat+1:Nat):Int) ((f j).toNat+1) k=k:=by
     show(if (((f j).toNat+1:Nat):Int)<f k then _ else k)=k
     rw[if_neg (by omega)]
    rw[hx]
  ·have hz:f k=0:=by have:=T.nn k hk; omega
   rw[(T.par_none hk).2 hz,if_pos (by decide),hz]
   simp[Hq]
end
end Go.Proofs.YtfmkkemfhjkajaaGreatDoor
