/- The key of a node: its content with numbers in lowest -/
import Derived.Test.YtapmgonflgahbaaGreatDoorE36b
set_option linter.unusedVariables false
namespace Go.Proofs.YtapmgonflgahbaaGreatDoor
section
variable{K:Nat}
instance amL:DecidableEq Q6:=fun P Q=>decidable_of_iff (P.a=Q.a∧P.b=Q.b∧P.c=Q.c∧P.d=Q.d∧P.e=Q.e∧P.f=Q.f) (by
 obtain⟨a,b,c,d,e,f⟩:=P;obtain⟨a',b',c',d',e',f'⟩:=Q;simp)
structure RY where
 w:Int
 h:Int
 l:List bT
deriving DecidableEq
structure CZ where
 kind:Int
 color:bT
 p0:kU
 p1:kU
 bn:Int
 stops:List fH
 spread:Int
 img:RY
 bY:Int
 q:Q6
deriving DecidableEq
structure GH where
 width:Int
 join:Int
 cap:Int
 dZ:Int
 dash:List Int
 phase:Int
deriving DecidableEq
structure dR where
 id:Int
 kind:Int
 depth:Int
 q:Q6
 clip:List eU
 aO:Int
 eY:UInt8
 blend:Int
 isolated:Bool
 dL:Bool
 path:List eU
 aW:Int
 fill:List CZ
 style:GH
 stroke:List CZ
 img:RY
 bY:Int
deriving DecidableEq
def dB.key(m:dB):RY:=⟨m.w,m.h,m.l⟩
def ak.key(p:ak):CZ:=⟨p.kind,p.color,p.p0,p.p1,p.bn,p.stops,p.spread,p.img.key,p.bY,p.t.q⟩
def bC.key(p:bC):GH:=⟨p.width,p.join,p.cap,p.dZ,p.dash,p.phase⟩
def aA.key(n:aA):dR:=⟨n.id,n.kind,n.depth,n.t.q,n.clip,n.aO,n.eY,n.blend,n.isolated,n.dL,n.path,n.aW,n.fill.map ak.key,n.style.key,n.stroke.map ak.key,n.img.key,n.bY⟩
theorem La{a b:UInt8}:(a.toNat:Int)=(b.toNat:Int)↔a=b:=⟨ER,fun h=>by rw[h]⟩
theorem UR{a b:bT}:(a.r=b.r∧a.g=b.g∧a.b=b.b∧a.a=b.a)↔a=b:=by cases a; cases b; simp
theorem aeX{a b:kU}:(a.x=b.x∧a.y=b.y)↔a=b:=by cases a; cases b; simp
theorem Lc(m n:dB):m.eq n=decide (m.key=n.key):=by
 rw[aoR]; simp[dB.eq,dB.key]
theorem UU(p q:bC):p.eq q=decide (p.key=q.key):=by
 rw[aoR]; simp only[bC.eq,bC.key,GH.mk.injEq,aoq,aoo,aov,and_assoc];constructor
 ·rintro⟨h1,h2,h3,h4,h5,h6⟩; exact⟨h1,h2,h3,h4,h6,h5⟩
 rintro⟨h1,h2,h3,h4,h5,h6⟩; exact⟨h1,h2,h3,h4,h6,h5⟩
theorem UW(P Q:Q6):P.same Q=decide (P=Q):=by
 obtain⟨a,b,c,d,e,f⟩:=P;obtain⟨a',b',c',d',e',f'⟩:=Q;rw[aoR]; simp[Q6.same]
theorem adB{P Q:Q6}(hp:Aw P)(hq:Aw Q):P.eq Q=decide (P=Q):=by rw[←Q6.same_eq hp hq,UW]
theorem ak.aeY{p q:ak}(hp:Aw p.t.q)(hq:Aw q.t.q):p.eq q=decide (p.key=q.key):=by
 rw[aoR];unfold ak.eq;rw[adB hp hq,Lc];simp only[aoq,aoo,aov,La,UR,aeX,ak.key,CZ.mk.injEq,and_assoc];constructor
 ·rintro⟨h1,h2,h3,h4,h5,h6,h7,h8,h9,h10⟩; exact⟨h1,h2,h3,h4,h5,h8,h6,h9,h7,h10⟩
 rintro⟨h1,h2,h3,h4,h5,h6,h7,h8,h9,h10⟩; exact⟨h1,h2,h3,h4,h5,h7,h9,h6,h8,h10⟩
def acs(l:List ak):Prop:=∀p∈l,Aw p.t.q
theorem oM:∀{l m:List ak},acs l→acs m→dw l m=decide (l.map ak.key=m.map ak.key)
 | [],[],_,_=>by simp[dw]
 | [],y::m,_,_=>by simp[dw]
 | x::l,[],_,_=>by simp[dw]
 | x::l,y::m,hl,hm=>by
  have ih:=oM (l:=l) (m:=m) (fun p hp=>hl p (apM _ hp)) (fun p hp=>hm p (apM _ hp))
  have e:=ak.aeY (hl x aox) (hm y aox)
  rw[aoR]at ih e ⊢
  simp only[dw,aop,Nat.add_right_cancel_iff,List.zip_cons_cons,List.all_cons,aoS,aoM,aoq,aov]at ih e ⊢
  rw[e,←ih]
  constructor
  ·rintro⟨h1,h2,h3⟩; exact⟨h2,h1,h3⟩
  ·rintro⟨h1,h2,h3⟩; exact⟨h2,h1,h3⟩
def aA.nrm(n:aA):Prop:=Aw n.t.q∧acs n.fill∧acs n.stroke
theorem fG.nrm{w:World}{n:aA}(h:fG K w n):n.nrm:=
 ⟨(bD.toQ h.1.2.2.2.1 h.2.1).nrm,fun p hp=>(bD.toQ (h.1.2.2.2.2.2.2.2.2.2.1.2 p hp).2.2.2.2.2.2.2.2.2 (h.2.2.1 p hp)).nrm,fun p hp=>(bD.toQ (h.1.2.2.2.2.2.2.2.2.2.2.2.1.2 p hp).2.2.2.2.2.2.2.2.2 (h.2.2.2.1 p hp)).nrm⟩
theorem O7{a b:Bool}:cond a false b=(!a&&b):=by cases a<;>rfl
theorem acu{a b:aA}(ha:a.nrm)(hb:b.nrm):a.eqP b=decide (a.key=b.key):=by
 rw[aoR];unfold aA.eqP;rw[adB ha.1 hb.1,oM ha.2.1 hb.2.1,oM ha.2.2 hb.2.2,Lc,UU];simp only[O7,aoq,apr,aoP,bne_eq_false_iff_eq,ao4,aoo,aov,La,aA.key,dR.mk.injEq,and_assoc];constructor
 ·rintro⟨h1,h2,h3,h4,h5,h6,h7,h8,h9,h10,h11,h12,h13,UY,h15,h16,h17⟩; exact⟨h1,h2,h3,h11,h12,h4,h5,h6,h7,h8,h13,h9,UY,h16,h15,h17,h10⟩
 rintro⟨h1,h2,h3,h11,h12,h4,h5,h6,h7,h8,h13,h9,UY,h16,h15,h17,h10⟩; exact⟨h1,h2,h3,h4,h5,h6,h7,h8,h9,h10,h11,h12,h13,UY,h15,h16,h17⟩
theorem acv{a b:aA}(ha:a.nrm)(hb:b.nrm):a.eqR b=decide (a.key=b.key):=by
 rw[aoR];unfold aA.eqR;rw[UW,oM ha.2.1 hb.2.1,oM ha.2.2 hb.2.2,Lc,UU];simp only[O7,aoq,apr,aoP,bne_eq_false_iff_eq,ao4,aoo,aov,La,aA.key,dR.mk.injEq,and_assoc];constructor
 ·rintro⟨h1,h2,h3,h11,h4,h9,h10,h5,h6,h7,h8,h12,h13,UY,h15,h16,h17⟩; exact⟨h1,h2,h3,h11,h12,h4,h5,h6,h7,h8,h13,h9,UY,h16,h15,h17,h10⟩
 rintro⟨h1,h2,h3,h11,h12,h4,h5,h6,h7,h8,h13,h9,UY,h16,h15,h17,h10⟩; exact⟨h1,h2,h3,h11,h4,h9,h10,h5,h6,h7,h8,h12,h13,UY,h15,h16,h17⟩
theorem GI(n:aA):n.lT=n.style.eq bC.bare:=by
 rw[aoR];unfold aA.lT bC.eq bC.bare;simp only[aoq,aoo,aov];have h0:(n.style.dash.length:Int)=0↔n.style.dash=[]:=by
  rw[←List.length_eq_zero_iff]; omega
 rw[h0];constructor
 ·rintro⟨⟨⟨⟨⟨h1,h2⟩,h3⟩,h4⟩,h5⟩,h6⟩; exact⟨⟨⟨⟨⟨h1,h2⟩,h3⟩,h4⟩,h6⟩,h5⟩
 rintro⟨⟨⟨⟨⟨h1,h2⟩,h3⟩,h4⟩,h6⟩,h5⟩; exact⟨⟨⟨⟨⟨h1,h2⟩,h3⟩,h4⟩,h5⟩,h6⟩
theorem RZ(n:aA):n.rE=(n.img.eq dB.bare&&(n.bY==0)):=by
 have h0:((n.img.l.length:Int)==0)=(n.img.l==[]):=by
  rw[aoR]; simp only[aoo]; rw[←List.length_eq_zero_iff]; omega
 unfold aA.rE dB.eq dB.bare;rw[h0];ac_rfl
theorem Si(n:aA):(!n.rG)=((!(((((n.clip.length:Int))==0)&&((n.aO)==0))||((decide (0<(n.clip.length:Int)))&&((n.aO==1)||(n.aO==2)))))||(!(n.bare))):=by
 unfold aA.rG aA.bare;rw[GI,RZ];unfold aA.pY aA.rF;generalize n.style.eq bC.bare=s;generalize n.img.eq dB.bare=i;have hn:(decide (0<(n.clip.length:Int))) = !((n.clip.length:Int)==0):=by
  rw[aoR]; simp only[aov,apr,aog]; omega
 rw[hn,show(n.aO != 0) = !(n.aO==0)from rfl];cases h1:n.kind==1<;>cases h2:n.kind==2<;>simp only[cond_true,cond_false];all_goals
  cases (n.clip.length:Int)==0<;>cases n.aO==0<;>cases n.aO==1<;>cases n.aO==2<;>simp[Bool.and_assoc]
theorem Sj(n:aA):n.mY=mP n.pK:=by
 unfold aA.mY aA.pK;rw[GI];have hn:((n.stroke.length:Int)==0) = !(decide (0<(n.stroke.length:Int))):=by
  rw[aoR]; simp only[apr,ao3,aoo]; omega
 rw[hn];simp only[mP,Bool.cond_eq_ite]
theorem Sl(n:aA):n.kF=n.checkN:=by
 unfold aA.kF aA.checkN aA.qo;rw[Si,Sj];have hq:(lD n.t.q.wV q0==0)=qQ n.t.q.wV q0:=rfl;rw[hq];unfold aA.kD;generalize ((!(((((n.clip.length:Int))==0)&&((n.aO)==0))||((decide (0<(n.clip.length:Int)))&&((n.aO==1)||(n.aO==2)))))||(!(n.bare)))=f;generalize ((decide (n.kind<1))||(decide (3<n.kind)))=a;generalize ((((decide (n.id<1))||(decide (1073741824<n.id)))||(decide (n.depth<0)))||(decide (8≤n.depth)))=b;generalize mP n.pK=s;cases h1:n.kind==1<;>cases h2:n.kind==2<;>cases a<;>cases b<;>cases n.t.q.valid<;>cases qQ n.t.q.wV q0<;>cases iY n.clip<;>cases f<;>simp[badL,mP,Bool.cond_eq_ite];all_goals
  have h1':n.kind=1:=by simpa using h1
  rw[h1']at h2
  simp at h2
end
section
theorem Xh{p q:ak}(h:p.key=q.key):p.valid=q.valid:=by
 obtain⟨k,c,p0,p1,r,sva,svc,st,sp,⟨iw,ih,isa,isc,il⟩,sm,t⟩:=p;obtain⟨k',c',p0',p1',r',ajG,ajH,st',sp',⟨iw',ih',ajI,ajJ,il'⟩,sm',t'⟩:=q;simp only[ak.key,dB.key,CZ.mk.injEq,RY.mk.injEq]at h;obtain⟨rfl,rfl,rfl,rfl,rfl,rfl,rfl,⟨rfl,rfl,rfl⟩,rfl,ht⟩:=h;have hw:∀(b:ak),(ak.without ⟨k,c,p0,p1,r,sva,svc,st,sp,⟨iw,ih,isa,isc,il⟩,sm,t⟩).eq b=(ak.without ⟨k,c,p0,p1,r,ajG,ajH,st,sp,⟨iw,ih,ajI,ajJ,il⟩,sm,t'⟩).eq b:=by
  intro b;unfold ak.without;simp only;cases k==1<;>cases k==2<;>cases k==3<;>cases k==4<;>simp only[cond_true,cond_false,ak.Um,ak.only2,ak.Un,ak.Uo,ak.Zm,ak.eq]<;>rfl
 unfold ak.valid;simp only[hw,ht];rfl
theorem Ac:∀{l m:List ak},l.map ak.key=m.map ak.key→l.all ak.valid=m.all ak.valid
 | [],[],_=>rfl
 | [],_::_,h=>by cases h
 | _::_,[],h=>by cases h
 | x::l,y::m,h=>by
  simp only[aoS,aoM]at h
  rw[List.all_cons,List.all_cons,Xh h.1,Ac h.2]
theorem Sm{a b:aA}(h:a.key=b.key):a.checkN=b.checkN:=by
 simp only[aA.key,bC.key,dB.key,dR.mk.injEq,GH.mk.injEq,RY.mk.injEq]at h;obtain⟨h1,h2,h3,h4,h5,h6,h7,h8,h9,h10,h11,h12,h13,⟨s1,s2,s3,s4,s5,s6⟩,h15,⟨i1,i2,i3⟩,h17⟩:=h;have l1:a.fill.length=b.fill.length:=by have:=an9 List.length h13; simpa using this
 have l2:a.stroke.length=b.stroke.length:=by have:=an9 List.length h15; simpa using this
 have hs:∀p:bC,a.style.eq p=b.style.eq p:=fun p=>by unfold bC.eq; rw[s1,s2,s3,s4,s5,s6]
 have hi:∀m:dB,a.img.eq m=b.img.eq m:=fun m=>by unfold dB.eq; rw[i1,i2,i3]
 have hb:a.bare=b.bare:=by unfold aA.bare; rw[hs,hi,h2,h7,h8,h9,h10,h11,h12,h17,l1,l2]
 have hsv:a.style.valid=b.style.valid:=by unfold bC.valid; rw[s1,s2,s3,s4,s5,s6]
 have hiv:a.img.valid=b.img.valid:=by unfold dB.valid dB.size; rw[i1,i2,i3]
 have hc:a.kD=b.kD:=by unfold aA.kD; rw[hb,h1,h2,h3,h4,h5,h6]
 have hsh:a.pK=b.pK:=by unfold aA.pK; rw[h11,h12,l1,l2,hsv,hs,Ac h13,Ac h15]
 unfold aA.checkN aA.qo;rw[hc,hsh,h2,h8,hiv,h17]
open Classical in
noncomputable def dR.chk(κ:dR):Int:=if h:∃n:aA,n.key=κ then h.choose.checkN else 1
theorem kV(n:aA):n.key.chk=n.checkN:=by
 have h:∃m:aA,m.key=n.key:=⟨n,rfl⟩;unfold dR.chk;rw[dif_pos h];exact Sm h.choose_spec
theorem sN:∀{l:List (Bool×Int)},(∀p∈l,p.2≠0)→mP l=0→∀p∈l,p.1=false
 | [],_,_,p,hp=>by cases hp
 | q::l,h,h0,p,hp=>by
  unfold mP at h0
  split at h0
  ·exact absurd h0 (h q aox)
  ·rename_i hq
   rcases aon.1 hp with rfl | hp
   ·simpa using hq
   ·exact sN (fun p hp=>h p (apM _ hp)) h0 p hp
theorem IQ(n:aA):∀p∈n.kD,p.2≠0:=by
 intro p hp;simp only[aA.kD,aon,apO,or_false]at hp;rcases hp with rfl | rfl | rfl | rfl | rfl | rfl
 ·exact(by decide:(2:Int)≠0)
 ·exact(by decide:(6:Int)≠0)
 ·exact(by decide:(5:Int)≠0)
 ·exact(by decide:(9:Int)≠0)
 ·exact(by decide:(10:Int)≠0)
 exact(by decide:(17:Int)≠0)
theorem DY{n:aA}(h:n.checkN=0):badL n.kD=false∧n.qo=0:=by
 unfold aA.checkN at h;cases hb:badL n.kD
 ·rw[hb]at h; exact⟨rfl,h⟩
 rw[hb,cond_true]at h;have:=sN (IQ n) h;unfold badL at hb;obtain⟨p,hp,hp2⟩:=aqa.1 hb;rw[this p hp]at hp2;cases hp2
theorem vT{n:aA}(h:n.checkN=0):1≤n.kind∧n.kind≤3∧1≤n.id∧n.id≤1073741824∧0≤n.depth∧n.depth<8:=by
 have hb:=(DY h).1;simp only[badL,aA.kD,List.any_cons,aoP,ao3]at hb;obtain⟨⟨h1,h2⟩,⟨⟨⟨h3,h4⟩,h5⟩,h6⟩,_⟩:=hb;omega
theorem dR.aaq{κ:dR}(h:κ.chk=0):∃n:aA,n.key=κ∧n.checkN=0:=by
 unfold dR.chk at h;split at h
 ·rename_i hx; exact⟨hx.choose,hx.choose_spec,h⟩
 cases h
theorem dR.Xi{κ:dR}(h:κ.chk=0):1≤κ.kind∧κ.kind≤3∧1≤κ.id∧κ.id≤1073741824∧0≤κ.depth∧κ.depth<8:=by
 obtain⟨n,rfl,hn⟩:=dR.aaq h;exact vT hn
end
section
structure jU where
 w:Int
 h:Int
 bg:bT
 ns:List dR
deriving DecidableEq
structure qw where
 kind:Int
 id:Int
 index:Int
 depth:Int
 node:dR
 color:bT
deriving DecidableEq
def dR.zero:dR:=bZ.key
def zn(l:List dR)(id:Int):Option Nat:=l.findIdx? fun κ=>κ.id==id
def Bq(l:List dR)(id:Int):Int:=match zn l id with | some i=>i | none => -1
def xH(pre:List dR):Int:=match pre.getLast? with | none=>0 | some p=>if p.kind=1 then p.depth+1 else p.depth
noncomputable def iR(pre:List dR)(x:dR):Int:=
 if x.chk≠0 then x.chk else if pre.any (fun κ=>κ.id==x.id)then 7 else if x.depth≤xH pre then 0 else 17
noncomputable def lW(pre:List dR):List dR→Int×Int
 | []=>(0,0)
 | x::r=>if iR pre x=0 then lW (pre++[x]) r else (iR pre x,pre.length)
noncomputable def jU.chk(s:jU):Int×Int:=
 if s.w<1∨256<s.w∨s.h<1∨256<s.h then (6,0)else if 64<s.ns.length then (5,64)else lW [] s.ns
noncomputable def jU.valid(s:jU):Bool:=s.chk.1==0
def GK(pre:List dR):List dR→Prop
 | []=>True
 | x::r=>iR pre x=0∧GK (pre++[x]) r
abbrev VL (l:List dR):Prop:=GK [] l
theorem Bv:∀{l pre:List dR},(lW pre l).1=0↔GK pre l
 | [],pre=>by simp[lW,GK]
 | x::r,pre=>by
  unfold lW GK
  split
  ·rename_i h; rw[Bv]; simp[h]
  ·rename_i h; simp[h]
theorem jU.Jz{s:jU}:s.valid=true↔(1≤s.w∧s.w≤256∧1≤s.h∧s.h≤256)∧s.ns.length≤64∧VL s.ns:=by
 unfold jU.valid jU.chk;rw[aoo];split
 ·rename_i h; constructor
  ·intro h2; cases h2
  rintro⟨h2,_⟩; omega
 split
 ·constructor
  ·intro h2; cases h2
  rintro⟨_,h2,_⟩; omega
 rw[Bv];constructor
 ·intro h2; exact⟨by omega,by omega,h2⟩
 rintro⟨_,_,h2⟩; exact h2
theorem DZ{pre:List dR}{x:dR}:iR pre x=0↔x.chk=0∧(∀κ∈pre,κ.id≠x.id)∧x.depth≤xH pre:=by
 unfold iR;split
 ·rename_i h; exact⟨fun h2=>absurd h2 h,fun h2=>absurd h2.1 h⟩
 rename_i h;split
 ·rename_i h2;obtain⟨κ,h3,h4⟩:=aqa.1 h2;exact⟨fun h5=>absurd h5 (by decide),fun h5=>absurd (by simpa using h4) (h5.2.1 κ h3)⟩
 rename_i h2;have h3:∀κ∈pre,κ.id≠x.id:=fun κ hκ he=>h2 (aqa.2 ⟨κ,hκ,by simpa using he⟩);split
 ·rename_i h4; exact⟨fun _=>⟨by simpa using h,h3,h4⟩,fun _=>rfl⟩
 rename_i h4; exact⟨fun h5=>absurd h5 (by decide),fun h5=>absurd h5.2.2 h4⟩
theorem JA:∀{l pre:List dR},GK pre l↔∀a x b,l=a++x::b→iR (pre++a) x=0
 | [],pre=>⟨fun _ a x b h=>by simp at h,fun _=>trivial⟩
 | y::r,pre=>by
  unfold GK
  rw[JA (l:=r)]
  constructor
  ·rintro⟨h1,h2⟩ a x b h
   cases a with
   | nil =>
    simp only[apE,aoM]at h
    rw[ao6,←h.1]; exact h1
   | cons z a =>
    simp only[apC,aoM]at h
    rw[h.1]at h2
    rw[show pre++z::a=(pre++[z])++a by simp]
    exact h2 a x b h.2
  ·intro h
   refine⟨by simpa using h [] y r rfl,fun a x b e=>?_⟩
   rw[show(pre++[y])++a=pre++y::a by simp]
   exact h (y::a) x b (by rw[e]; rfl)
theorem aar{l:List dR}:VL l↔(∀x∈l,x.chk=0)∧(l.map dR.id).Nodup∧∀a x b,l=a++x::b→x.depth≤xH a:=by
 unfold VL;rw[JA];simp only[apE,DZ];constructor
 ·intro h;refine⟨fun x hx=>?_,?_,fun a x b e=>(h a x b e).2.2⟩
  ·obtain⟨a,b,e⟩:=List.append_of_mem hx;exact(h a x b e).1
  rw[List.nodup_iff_pairwise_ne];rw[List.pairwise_map];have key:∀(l pre:List dR),(∀a x b,l=a++x::b→∀κ∈pre++a,κ.id≠x.id)→List.Pairwise (fun a b:dR=>a.id≠b.id) l:=by
   intro l;induction l with
   | nil=>intro _ _; exact List.Pairwise.nil
   | cons y r ih =>
    intro pre h;refine List.Pairwise.cons (fun z hz=>?_) (ih (pre++[y]) fun a x b e κ hκ=>h (y::a) x b (by rw[e]; rfl) κ (by simpa using hκ));obtain⟨a,b,e⟩:=List.append_of_mem hz;exact h (y::a) z b (by rw[e]; rfl) y (by simp)
  exact key l [] fun a x b e κ hκ=>(h a x b e).2.1 κ (by simpa using hκ)
 rintro⟨h1,h2,h3⟩ a x b e;refine⟨h1 x (by rw[e]; simp),fun κ hκ he=>?_,h3 a x b e⟩;rw[e,aoL,aoS,apw]at h2;exact h2.2.2 κ.id (aoW.2 ⟨κ,hκ,rfl⟩) x.id aox he
end
section
theorem Sr{l:List dR}{id:Int}{i:Nat}(h:zn l id=some i):∃hi:i<l.length,l[i].id=id:=by
 unfold zn at h;obtain⟨h1,h2,_⟩:=List.findIdx?_eq_some_iff_getElem.1 h;exact⟨h1,by simpa using h2⟩
theorem Sv{l:List dR}{id:Int}:zn l id=none↔∀κ∈l,κ.id≠id:=by
 unfold zn;rw[List.findIdx?_eq_none_iff];simp
def qw.named(e:qw):Bool:=
 if e.kind=1 then e.id==0&&(e.depth==0&&e.color==bT.none)
 else if e.kind=2 then e.index==0&&(e.depth==0&&(e.node==dR.zero&&e.color==bT.none))
 else if e.kind=3 then e.node==dR.zero&&e.color==bT.none
 else if e.kind=4 then e.id==0&&(e.index==0&&(e.depth==0&&e.color==bT.none))
 else if e.kind=5 then e.id==0&&(e.index==0&&(e.depth==0&&e.node==dR.zero))
 else false
end
section
theorem Sz{pre:List dR}{x:dR}(h:x.chk≠0):iR pre x=x.chk:=by unfold iR; rw[an6 h]
end
section
open Go.RowKit
variable{α:Type}{K:Nat}
structure dF where
 w:Int
 h:Int
 bg:bT
 nsa:Option Addr
 nsc:Nat
 ns:List aA
def dF.s(s:dF):Value := .slice s.nsa s.ns.length s.nsc
def dF.cells(s:dF):List Value:=[.i s.w,.i s.h]++s.bg.cells++[s.s]
def dF.v(s:dF):Value := .agg s.cells.toArray
def dF.key(s:dF):jU:=⟨s.w,s.h,s.bg,s.ns.map aA.key⟩
abbrev Bz (K:Nat)(w:World)(v:Value)(l:List aA):Prop:=aV 47 aA.cells w v l∧∀n∈l,fG K w n
def kW(K:Nat)(w:World)(s:dF):Prop:=I64 s.w∧I64 s.h∧Bz K w s.s s.ns
structure jE where
 kind:Int
 id:Int
 index:Int
 depth:Int
 node:aA
 color:bT
def jE.cells(e:jE):List Value:=[.i e.kind,.i e.id,.i e.index,.i e.depth]++e.node.cells++e.color.cells
def jE.v(e:jE):Value := .agg e.cells.toArray
def jE.key(e:jE):qw:=⟨e.kind,e.id,e.index,e.depth,e.node.key,e.color⟩
def sO(K:Nat)(w:World)(e:jE):Prop:=I64 e.kind∧I64 e.id∧I64 e.index∧I64 e.depth∧fG K w e.node
theorem Bz.below{w w':World}{v:Value}{l:List aA}(h:Bz K w v l)(hb:Ext w w'):Bz K w' v l:=⟨h.1.below hb,fun n hn=>(h.2 n hn).below hb⟩
theorem kW.below{w w':World}{s:dF}(h:kW K w s)(hb:Ext w w'):kW K w' s:=⟨h.1,h.2.1,h.2.2.below hb⟩
theorem sO.below{w w':World}{e:jE}(h:sO K w e)(hb:Ext w w'):sO K w' e:=⟨h.1,h.2.1,h.2.2.1,h.2.2.2.1,h.2.2.2.2.below hb⟩
def dF.zero:dF:=⟨0,0,.none,none,0,[]⟩
theorem GL(pre:List dR)(x:dR):xH (pre++[x])=if x.kind=1 then x.depth+1 else x.depth:=by
 unfold xH;rw[List.getLast?_concat]
def uf(pre:List dR)(x:dR):Bool:=match pre.getLast? with
 | none=>x.depth==0
 | some p=>(p.kind==1&&x.depth==p.depth+1)||decide (x.depth≤p.depth)
theorem GN{pre:List dR}{x:dR}(h:x.chk=0):uf pre x=decide (x.depth≤xH pre):=by
 have hd:=(dR.Xi h).2.2.2.2.1;unfold uf xH;cases pre.getLast? with
 | none=>rw[aoR]; simp only[aoo,aov]; omega
 | some p =>
  rw[aoR];simp only[apt,aoq,aoo,aov];split<;>omega
end
end Go.Proofs.YtapmgonflgahbaaGreatDoor
section
namespace Go.Sx
open Go.Proofs.YtapmgonflgahbaaGreatDoor Go.RowKit Go.Rel
def Bot(Q:Exit→Act→World→Prop):Exit→Act→World→Prop
 | .normal,a,w=>Q .normal a w
 | _,_,_=>False
section
variable{P:Program}{ops ops':Array Oper}{Q:Exit→Act→World→Prop}{a:Act}{w:World}
theorem GR:¬LetsOut (Bot Q):=fun⟨_,_,h⟩=>h
theorem aas{i:Nat}{K K':Act→World→Prop}(hK:∀a w,K a w→K' a w)(h:wpOp P ops (Bot Q) i K a w):wpOp P ops Q i K' a w:=by
 unfold wpOp at *;split at h
 ·exact hK _ _ h
 split at h
 ·rename_i hw;rw[an6 hw];rcases h with h | ⟨_,h⟩
  ·left;unfold Oper.wp at *;generalize (execOp a.eval _).run P w=r at *;cases r with
   | ok n w' =>
    cases n<;>simp only[Oper.upon]at h ⊢;case value u=>exact hK _ _ h
    case skip=>exact hK _ _ h
    case defer d=>exact hK _ _ h
    case enter f args =>
     refine Calls.mono h fun e w'' he=>?_;cases e with
     | returned u=>exact hK _ _ he
     | panicked c=>exact he.elim
     | outgrown=>exact(GR he).elim
    case row row args=>exact Rows.mono h fun u w'' he=>hK _ _ he
   | halt x w' =>
    cases x<;>simp only[Oper.upon]at h ⊢;case panic u=>exact h.elim
  exact(GR h).elim
 rename_i hw;rw[an0 hw];exact hK _ _ h
theorem JB{md:Region.Mode}:∀(f:Nat) (listed:Array Bool) (a:Act) (w:World),wpAny P md ops (Bot Q) f listed a w→wpAny P md ops Q f listed a w
 | 0,_,_,_,h=>⟨h.1,h.2⟩
 | f+1,_,_,_,h=>⟨fun h0=>h.1 h0,fun i hi=>aas (fun a w=>JB f _ a w) (h.2 i hi)⟩
def Alike(ops ops':Array Oper):Prop:=ops.size=ops'.size∧∀i:Nat,(ops[i]?).map (fun o:Oper=>(o.op,o.dst,o.guard,o.type,o.pos))=(ops'[i]?).map (fun o:Oper=>(o.op,o.dst,o.guard,o.type,o.pos))
theorem Alike.get(h:Alike ops ops'){i:Nat}{o':Oper}(hi:ops'[i]?=some o'):∃af,ops[i]?=some { o' with after:=af }:=by
 have:=h.2 i;rw[hi]at this;cases ho:ops[i]? with
 | none=>rw[ho]at this; cases this
 | some o =>
  rw[ho]at this;obtain⟨dst,op,type,pos,after,guard⟩:=o;obtain⟨dst',op',type',pos',after',guard'⟩:=o';simp only[aoO,an8,aob]at this;obtain⟨rfl,rfl,rfl,rfl,rfl⟩:=this;exact⟨after,rfl⟩
theorem Alike.none(h:Alike ops ops'){i:Nat}(hi:ops'[i]?=none):ops[i]?=none:=by
 have:=h.2 i;rw[hi]at this;cases ho:ops[i]? with
 | none=>rfl
 | some o=>rw[ho]at this; cases this
theorem Alike.yielded(h:Alike ops ops')(ts:Array Value):Go.yielded ops ts=Go.yielded ops' ts:=by
 funext j;unfold Go.yielded;have:=h.2 j;cases h1:ops[j]?<;>cases h2:ops'[j]?<;>rw[h1,h2]at this
 ·cases this
 ·cases this
 simp only[aoO,an8,aob]at this;simp only[apX,this.2.1]
theorem Alike.exec{ρ:Operand→Value}{o:Oper}{af:Array Edge}:execOp ρ { o with after:=af }=execOp ρ o:=by
 obtain⟨dst,op,type,pos,after,guard⟩:=o;rfl
theorem Alike.wpOp(h:Alike ops ops'){i:Nat}{K K':Act→World→Prop}(hK:∀a w,K a w→K' a w)(hh:Go.wpOp P ops Q i K a w):Go.wpOp P ops' Q i K' a w:=by
 refine wpOp_mono hK ?_;unfold Go.wpOp at *;cases hi:ops'[i]? with
 | none=>rw[h.none hi]at hh; exact hh
 | some o' =>
  obtain⟨af,ho⟩:=h.get hi;rw[ho]at hh;simp only at hh ⊢;rw[h.yielded]at hh;have e1:Region.wanted { o' with after:=af }=Region.wanted o':=rfl;rw[e1]at hh;unfold Oper.wp Oper.asks at *;simp only[Alike.exec]at hh;exact hh
theorem O8{F:List Nat}(h:Alike ops ops')(hF:∀(i:Nat) (o o':Oper),ops[i]?=some o→ops'[i]?=some o'→∀e∈o.after,Region.binds .any e=true→e.on∈F∨∃e'∈o'.after,Region.binds .any e'=true∧e'.on=e.on)
  (hF':∀(i:Nat) (o o':Oper),ops[i]?=some o→ops'[i]?=some o'→∀e∈o'.after,Region.binds .any e=true→∃e'∈o.after,Region.binds .any e'=true∧e'.on=e.on) :
  ∀(f:Nat) (listed:Array Bool) (a:Act) (w:World),(∀i∈F,listed.getD i false=true)→wpAny P .any ops Q f listed a w→wpAny P .any ops' Q f listed a w:=by
 have hr:∀listed:Array Bool,(∀i∈F,listed.getD i false=true)→∀j,j∈Region.ready .any ops' listed↔j∈Region.ready .any ops listed:=by
  intro listed hl j;rw[mem_ready,mem_ready];constructor
  ·rintro⟨h0,o',ho',hall⟩;obtain⟨af,ho⟩:=h.get ho';refine⟨h0,_,ho,fun e he hb=>?_⟩;rcases hF j _ _ ho ho' e he hb with h1 | ⟨e',he',hb',heq⟩
   ·exact hl _ h1
   rw[←heq]; exact hall e' he' hb'
  rintro⟨h0,o,ho,hall⟩;cases ho':ops'[j]? with
  | none=>rw[h.none ho']at ho; cases ho
  | some o' =>
   refine⟨h0,o',rfl,fun e he hb=>?_⟩;obtain⟨e',he',hb',heq⟩:=hF' j _ _ ho ho' e he hb;rw[←heq]; exact hall e' he' hb'
 have hnil:∀listed:Array Bool,(∀i∈F,listed.getD i false=true)→(Region.ready .any ops' listed=[]↔Region.ready .any ops listed=[]):=fun listed hl=>by
  simp only[List.eq_nil_iff_forall_not_mem,hr listed hl]
 intro f;induction f with
 | zero=>exact fun listed a w hl hh=>⟨(hnil listed hl).2 hh.1,hh.2⟩
 | succ f ih =>
  exact fun listed a w hl hh=>⟨fun h0=>hh.1 ((hnil listed hl).1 h0),fun i hi=>h.wpOp (fun a w=>ih _ a w fun j hj=>getD_set_true (hl j hj)) (hh.2 i ((hr listed hl i).1 hi))⟩
def takeB(ops ops':Array Oper):List Nat→Array Bool→Bool
 | [],_=>true
 | p::F,listed=>(match ops[p]?,ops'[p]? with
  | some o,some o'=>(match o.op,o'.op,o.guard,o'.guard with | .move (.tmp x),.move (.tmp y),none,none=>x==y&&o.dst==o'.dst | _,_,_,_=>false)
  | _,_=>false)&&(Region.ready .any ops listed).contains p&&(Region.ready .any ops' listed).contains p&&Region.free .any ops' listed p&&takeB ops ops' F (listed.setIfInBounds p true)
theorem O9{ρ:Operand→Value}{o:Oper}{x:Operand}(h:o.op = .move x)(w:World):(execOp ρ o).run P w = .ok (.value (ρ x)) w:=by
 unfold execOp; simp only[h]; rfl
theorem Pg(hs:Region.noSelect ops'=true)(G:∀(f:Nat) (listed:Array Bool) (a:Act) (w:World) (F:List Nat),(∀i∈F,listed.getD i false=true)→True){F0:List Nat}
  (hA:∀(f:Nat) (listed:Array Bool) (a:Act) (w:World),(∀i∈F0,listed.getD i false=true)→wpAny P .any ops (Bot Q) f listed a w→wpAny P .any ops' (Bot Q) f listed a w) :
  ∀(F:List Nat) (f:Nat) (listed:Array Bool) (a:Act) (w:World),takeB ops ops' F listed=true→(∀i∈F0,i∈F∨listed.getD i false=true)→wpAny P .any ops (Bot Q) (f+F.length) listed a w→wpAny P .any ops' (Bot Q) (f+F.length) listed a w
 | [],f,listed,a,w,_,hl,h=>hA _ _ _ _ (fun i hi=>(hl i hi).resolve_left (by simp)) h
 | p::F,f,listed,a,w,hb,hl,h=>by
  unfold takeB at hb
  simp only[aoq]at hb
  obtain⟨⟨⟨⟨h1,h2⟩,h3⟩,h4⟩,h5⟩:=hb
  split at h1
  ·rename_i o o' ho ho'
   split at h1
   ·rename_i x y hx hy hg hg'
    simp only[aoq,aoo]at h1
    obtain⟨rfl,hd⟩:=h1
    rw[aop,←apG]at h ⊢
    have hp:p∈Region.ready .any ops listed:=by simpa using h2
    have hstep:=h.2 p hp
    unfold Go.wpOp at hstep
    rw[ho]at hstep
    simp only[Region.wanted,hg,if_true]at hstep
    have hstep2:wpAny P .any ops (Bot Q) (f+F.length) (listed.setIfInBounds p true) (a.put o.dst (a.eval (.tmp x))) w:=by
     rcases hstep with hst | ⟨_,hst⟩
     ·unfold Oper.wp at hst
      rw[O9 hx]at hst
      exact hst
     ·exact(GR hst).elim
    refine wpAny_take (v:=a.eval (.tmp x)) ho' hs h4 h3 (fun c a w h=>h.elim) (.inl ⟨by simp[Region.wanted,hg'],fun w=>O9 hy w⟩) ?_
    rw[←hd]
    refine Pg hs G hA F f _ _ w h5 (fun i hi=>?_) hstep2
    rcases hl i hi with h6 | h6
    ·rcases aon.1 h6 with rfl | h6
     ·right
      have hlt:i<listed.size:=by
       have:=(mem_ready.1 hp).1
       by_cases h:i<listed.size
       ·exact h
       ·rw[Array.getD_eq_getD_getElem?,Array.getElem?_eq_none (by omega)]at this; cases this
      simp[Array.getD_eq_getD_getElem?,hlt]
     ·exact .inl h6
    ·exact .inr (getD_set_true h6)
   ·cases h1
  ·cases h1
end
def GU(F:List Nat)(t:Nat)(os:List Oper):List Oper:=os.modify t fun o=>{ o with after:=o.after++(F.map fun i=>({ on:=i,ground := .data }:Edge)).toArray }
def aat(F:List Nat)(t:Nat)(os:List Oper):Bool:=Region.noSelect os.toArray&&takeB (GU F t os).toArray os.toArray F (Array.replicate os.length false)&&decide (F.length≤os.length)
theorem GV{F:List Nat}{t:Nat}{os:List Oper}{i:Nat}:(GU F t os)[i]?=if i=t then (os[i]?).map (fun o=>{ o with after:=o.after++(F.map fun i=>({ on:=i,ground := .data }:Edge)).toArray })else os[i]?:=by
 unfold GU;rw[List.getElem?_modify];by_cases h:t=i
 ·subst h; simp
 rw[an0 (fun e=>h e.symm)]; simp[h]
theorem hoist{P:Program}{Q:Exit→Act→World→Prop}{a:Act}{w:World}{os:List Oper}{id:Nat}(F:List Nat)(t:Nat)
  (h:wpAny P .any (GU F t os).toArray (Bot Q) (GU F t os).toArray.size (Array.replicate (GU F t os).toArray.size false) a { w with drawn:=w.drawn+1 }) (hmo:P.follows .mixedOrders=true:=by kernel_rfl) (hb:aat F t os=true:=by kernel_rfl):(Code.region id os.toArray true).wp P Q a w:=by
 unfold aat at hb;simp only[aoq,aov]at hb;obtain⟨⟨h1,h2⟩,h3⟩:=hb;have hlen:(GU F t os).length=os.length:=by unfold GU; simp
 refine apJ hmo (JB _ _ _ _ ?_);have hsz:(GU F t os).toArray.size=os.toArray.size:=by simp[hlen]
 rw[hsz]at h;have hal:Alike (GU F t os).toArray os.toArray:=⟨hsz,fun i=>by
  rw[List.getElem?_toArray,List.getElem?_toArray,GV];split
  ·cases os[i]?<;>rfl
  rfl⟩
 have key:=Pg (P:=P) (Q:=Q) (ops:=(GU F t os).toArray) (ops':=os.toArray) h1 (fun _ _ _ _ _ _=>trivial) (F0:=F) (fun f listed a w hl hh=>O8 (F:=F) hal (fun i o o' ho ho' e he hb=>?_) (fun i o o' ho ho' e he hb=>?_) f listed a w hl hh) F (os.length-F.length) (Array.replicate os.length false) a { w with drawn:=w.drawn+1 } (by simpa using h2) (fun i hi => .inl hi)
 ·rw[Nat.sub_add_cancel h3]at key;simpa using key (by simpa using h)
 ·rw[List.getElem?_toArray,GV]at ho;rw[List.getElem?_toArray]at ho';split at ho
  ·rw[ho']at ho;simp only[aoO,an8]at ho;subst ho;simp only[Array.mem_append,List.mem_toArray,aoW]at he;rcases he with he | ⟨j,hj,rfl⟩
   ·exact .inr ⟨e,he,hb,rfl⟩
   exact .inl hj
  rw[ho']at ho; obtain rfl:=aof ho;exact .inr ⟨e,he,hb,rfl⟩
 rw[List.getElem?_toArray,GV]at ho;rw[List.getElem?_toArray]at ho';split at ho
 ·rw[ho']at ho;simp only[aoO,an8]at ho;subst ho;exact⟨e,by simp[he],hb,rfl⟩
 rw[ho']at ho; obtain rfl:=aof ho;exact⟨e,he,hb,rfl⟩
end Go.Sx
end
