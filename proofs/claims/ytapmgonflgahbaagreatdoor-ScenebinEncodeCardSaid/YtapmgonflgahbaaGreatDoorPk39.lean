/- Encodings of scenes, nodes and edits. No program in -/
import Derived.Test.YtapmgonflgahbaaGreatDoorPutQ
import Derived.Test.YtapmgonflgahbaaGreatDoorPk34
import Derived.StillTailTactics
set_option linter.unusedVariables false
namespace Go.Proofs.YtapmgonflgahbaaGreatDoor
section
open En
variable{α:Type}
abbrev iB (x:Int):List UInt8:=dP 10 (zig x)
def gu(f:α→List UInt8)(l:List α):List UInt8:=dP 10 l.length++l.flatMap f
def jK(s:eU):List UInt8:=bH [s.verb,s.a.x,s.a.y,s.b.x,s.b.y,s.c.x,s.c.y]
def jJ(s:fH):List UInt8:=bH [s.o]++Px.pb s.c
def Az(pk:Bool)(m:RY):List UInt8:=bH [m.w,m.h]++(if pk=true then jH (Px.enc m.l)else m.l.flatMap Px.pb)
def tq(q:Q6):List UInt8:=[q.a,q.b,q.c,q.d,q.e,q.f].flatMap l9
def fD(pk:Bool)(p:CZ):List UInt8:=bH [p.kind]++Px.pb p.color++bH [p.p0.x,p.p0.y,p.p1.x,p.p1.y,p.bn]++gu jJ p.stops++bH [p.spread]++Az pk p.img++bH [p.bY]++tq p.q
def J8(p:GH):List UInt8:=bH [p.width,p.join,p.cap,p.dZ,p.phase]++gu iB p.dash
def qW(b:Bool):UInt8:=if b=true then 1 else 0
def oW(pk:Bool)(n:dR):List UInt8:=
 if n.kind=1 then [n.eY]++bH [n.blend]++[qW n.isolated,qW n.dL]
 else if n.kind=2 then gu jK n.path++bH [n.aW]++gu (fD pk) n.fill++gu (fD pk) n.stroke++(if 0<n.stroke.length then J8 n.style else [])
 else if n.kind=3 then Az pk n.img++bH [n.bY]else []
def fF(pk:Bool)(n:dR):List UInt8:=bH [n.id,n.kind,n.depth]++tq n.q++gu jK n.clip++bH [n.aO]++oW pk n
def xJ(s:jU):List UInt8:=[71,83,49]++bH [s.w,s.h]++Px.pb s.bg++gu (fF false) s.ns
def IX(pk:Bool)(e:qw):List UInt8:=bH [e.kind,e.id,e.index,e.depth]++(if e.kind=1∨e.kind=4 then fF pk e.node else if e.kind=5 then Px.pb e.color else [])
def qA(e:qw):List UInt8:=[71,69,49]++IX false e
theorem kS{f:α→List UInt8}{l:List α}{k:Nat}{x:α}(hk:k<l.length)(hx:l[k]=x)(B:List UInt8):B++(l.take k).flatMap f++f x=B++(l.take (k+1)).flatMap f:=by
 rw[aoZ hk,hx,aql]; simp
theorem yS{f:α→List UInt8}{l:List α}{B:List UInt8}{N:Nat}(h:(B++l.flatMap f).length≤N)(k:Nat):(B++(l.take k).flatMap f).length≤N:=by
 rw[an5]at h ⊢;have:((l.take k).flatMap f).length≤(l.flatMap f).length:=by
  conv=>rhs; rw[←apZ k l,aql,an5]
  omega
 omega
theorem afl{f:α→List UInt8}{l:List α}{N:Nat}(h:(l.flatMap f).length≤N):∀x∈l,(f x).length≤N:=fun x hx=>by
 obtain⟨s,t,rfl⟩:=List.append_of_mem hx;rw[aql,apn,an5,an5]at h;omega
theorem TY{f:α→List UInt8}{l:List α}{B:List UInt8}{N:Nat}(h:(B++l.flatMap f).length≤N):∀x∈l,(f x).length≤N:=afl (by rw[an5]at h; omega)
end
section
open En
variable{α:Type}{K:Nat}
theorem acM(f:Nat):∀n,0<n→(dP f n).length≤n:=by
 induction f with
 | zero=>intro n h; simp[dP]
 | succ f ih =>
  intro n h;unfold dP;split
  ·simp; omega
  have:=ih (n/128) (by omega);simp only[aop]; omega
theorem acN{R:List (Nat×bT)}:∀{last:Option bT},Px.good last R→(Px.rb R).length≤5*(Px.flat R).length:=by
 induction R with
 | nil=>intro _ _; exact aoa _
 | cons z R ih =>
  intro last h;obtain⟨n,p⟩:=z;simp only[Px.good]at h;have:=ih h.2.2;have:=acM 10 n h.1;simp only[Px.rb,Px.pb,Px.flat,an5,aop,aoy,List.length_replicate];omega
theorem Hl(l:List bT):(Px.enc l).length≤5*l.length:=by
 have h:=Px.W9 l;have:=acN h.1;rw[h.2]at this;exact this
theorem LK{f:α→List UInt8}{M:Nat}:∀{l:List α},(∀x∈l,(f x).length≤M)→(l.flatMap f).length≤l.length*M
 | [],_=>by simp
 | x::l,h=>by
  have h1:=h x aox
  have h2:=LK (l:=l) fun y hy=>h y (apM _ hy)
  rw[apn,an5,aop,Nat.succ_mul]; omega
theorem qc{f:α→List UInt8}{M N:Nat}{l:List α}(h:∀x∈l,(f x).length≤M)(hl:l.length≤N):(gu f l).length≤10+N*M:=by
 unfold gu;have h1:=LK h;have h2:=iE 10 l.length;have h3:=apR M hl;rw[an5]; omega
theorem LM(s:eU):(jK s).length≤70:=fJ _
theorem Ho(s:fH):(jJ s).length≤14:=by unfold jJ; rw[an5]; have:=fJ [s.o]; simp[Px.pb]at this ⊢; omega
theorem Vd{pk:Bool}{m:RY}(h:m.l.length≤65536):(Az pk m).length≤327800:=by
 unfold Az;have h1:=fJ [m.w,m.h];have h2:=Hl m.l;have h3:=LK (f:=Px.pb) (M:=4) (l:=m.l) fun x _=>an7 _;have h4:=iE 10 (Px.enc m.l).length;simp only[aop,aoy]at h1;rw[an5];cases pk
 ·simp only[apW,if_false]; omega
 simp only[if_true,jH,an5]; omega
theorem adN{n:Nat}(h:bl n≤256):n<Nb.B^32:=by
 show n<256^32;rw[show(256:Nat)^32=2^256 by rfl];unfold bl at h;split at h
 ·omega
 exact aoC Nat.lt_log2_self (ao0 (by decide) h)
theorem q_len{q:Bool×Nat×Nat}(h:bW q≤256):(l9 q).length≤100:=by
 unfold bW at h;have h1:=Nb.dD (adN (n:=q.2.1) (by omega));have h2:=Nb.dD (adN (n:=q.2.2) (by omega));have h3:=iE 10 (Nb.aj q.2.1).length;have h4:=iE 10 (Nb.aj q.2.2).length;simp only[l9,jH,aop,an5];omega
theorem LP{q:Q6}(h:q.valid=true):(tq q).length≤600:=by
 unfold Q6.valid at h;simp only[aoq,aov]at h;obtain⟨h1,h2,h3,h4,h5,h6⟩:=h;have:=q_len h1;have:=q_len h2;have:=q_len h3;have:=q_len h4;have:=q_len h5;have:=q_len h6;simp only[tq,apn,List.flatMap_nil,an5,aoy];omega
theorem D8{l:List fH}(h:fA l=true):l.length≤16:=by
 unfold fA at h;simp only[aoq,aov]at h;exact h.2.1
theorem LQ{m:dB}(h:m.valid=true):m.l.length≤65536:=by
 unfold dB.valid dB.size at h;simp only[aoq,aov,aoo]at h;obtain⟨⟨-,-,h1⟩,h2,-⟩:=h;omega
theorem IY{p:ak}{k:Int}(h:p.eq (ak.bare k)=true):p.stops=[]∧p.img.l=[]∧p.img.w=0∧p.img.h=0:=by
 unfold ak.eq dB.eq at h;simp only[aoq,aov,aoo]at h;refine⟨?_,?_,?_,?_⟩
 ·have:p.stops=(ak.bare k).stops:=by simp_all
  exact this
 ·have:p.img.l=(ak.bare k).img.l:=by simp_all
  exact this
 ·have:p.img.w=(ak.bare k).img.w:=by simp_all
  exact this
 have:p.img.h=(ak.bare k).img.h:=by simp_all
 exact this
def dB.num(m:dB):Prop:=(m.l.length:Int)=m.w*m.h∧m.l.length≤65536∧0≤m.w∧m.w≤4096∧0≤m.h∧m.h≤4096
theorem BF{m:dB}(h:m.valid=true):m.num:=by
 have hl:=LQ h;unfold dB.valid dB.size side at h;simp only[aoq,aoo,aov]at h;exact⟨h.2.1,hl,by omega,by omega,by omega,by omega⟩
theorem xK{m:dB}(h1:m.l=[])(h2:m.w=0)(h3:m.h=0):m.num:=by
 unfold dB.num; rw[h1,h2,h3]; simp
theorem rP{p:ak}(h:p.valid=true):p.t.q.valid=true∧p.stops.length≤16∧p.img.num:=by
 unfold ak.valid at h;simp only[cond_eq_ite]at h;split at h
 ·cases h
 rename_i hw;simp only[apt,apr,not_or,Bool.not_eq_false]at hw;refine⟨hw.1,?_⟩;have he:=IY hw.2;unfold ak.without at he;simp only[cond_eq_ite]at he;split at h
 ·rename_i h1; rw[an6 h1]at he; exact⟨by rw[show p.stops=[]from he.1]; simp,xK he.2.1 he.2.2.1 he.2.2.2⟩
 rename_i h1;rw[an0 h1]at he;split at h
 ·rename_i h2;rw[an6 h2]at he;split at h
  ·cases h
  rename_i hs;simp only[apt,apr,not_or,Bool.not_eq_false,aoq]at hs;exact⟨D8 hs.2.1,xK he.2.1 he.2.2.1 he.2.2.2⟩
 rename_i h2;rw[an0 h2]at he;split at h
 ·rename_i h3;rw[an6 h3]at he;split at h
  ·cases h
  rename_i hs;simp only[apt,apr,not_or,Bool.not_eq_false,aoq]at hs;exact⟨D8 hs.2.1,xK he.2.1 he.2.2.1 he.2.2.2⟩
 rename_i h3;rw[an0 h3]at he;split at h
 ·rename_i h4;rw[an6 h4]at he;split at h
  ·cases h
  rename_i hs;simp only[apt,apr,not_or,Bool.not_eq_false,aoq]at hs;exact⟨by rw[show p.stops=[]from he.1]; simp,BF hs.1.1⟩
 cases h
theorem Di{pk:Bool}{p:ak}(h:p.valid=true):(fD pk p.key).length≤330000:=by
 obtain⟨h1,h2,h3⟩:=rP h;have a1:=LP (q:=p.key.q) h1;have a2:=Vd (pk:=pk) (m:=p.key.img) h3.2.1;have a3:=qc (f:=jJ) (l:=p.key.stops) (M:=14) (N:=16) (fun x _=>Ho x) h2;have a4:=fJ [p.key.kind];have a5:=fJ [p.key.p0.x,p.key.p0.y,p.key.p1.x,p.key.p1.y,p.key.bn];have a6:=fJ [p.key.spread];have a7:=fJ [p.key.bY];simp only[aop,aoy]at a4 a5 a6 a7;simp only[fD,an5,Px.pb,aop,aoy];omega
structure aA.Lim (n:aA):Prop where
 q:n.t.q.valid=true
 clip:n.clip.length≤256
 shape:n.kind=2→n.path.length≤256∧n.fill.length≤1∧n.stroke.length≤1∧(∀p∈n.fill,p.valid=true)∧(∀p∈n.stroke,p.valid=true)∧(0<n.stroke.length→n.style.dash.length≤16)
 img:n.kind=3→n.img.num
 bare:n.bare=true
 sty:n.kind=2→¬0<n.stroke.length→n.style.eq bC.bare=true
theorem Hq{l:List eU}(h:iY l=true):l.length≤256:=by
 unfold iY dO at h;by_cases h1:256<(l.length:Int)
 ·rw[an6 h1]at h; simp at h
 omega
theorem SY{l:List (Bool×Int)}(h:badL l=false):∀p∈l,p.1=false:=fun p hp=>by
 unfold badL at h;cases hb:p.1
 ·rfl
 have:=List.any_eq_false.1 h p hp; simp[hb]at this
theorem uU{n:aA}(h:n.checkN=0):n.Lim:=by
 obtain⟨hb,ho⟩:=DY h;have hc:=SY hb;unfold aA.kD at hc;simp only[aon,apO,or_false,forall_eq_or_imp,forall_eq,ao4]at hc;obtain⟨-,-,h3,-,h5,h6⟩:=hc;simp only[aoP,ao4]at h6;refine⟨h3,Hq h5,fun hk=>?_,fun hk=>?_,h6.2,fun hk hs0=>?_⟩
 ·unfold aA.qo at ho;rw[hk]at ho;simp only[show((2:Int)==1)=false from rfl,show((2:Int)==2)=true from rfl,cond_false,cond_true]at ho;have hs:=sN (fun p hp=>by
   simp only[aA.pK,aon,apO,or_false]at hp;rcases hp with rfl | rfl | rfl | rfl | rfl | rfl<;>simp) ho
  unfold aA.pK at hs;simp only[aon,apO,or_false,forall_eq_or_imp,forall_eq,ao4,aoP,Bool.and_eq_false_iff,ao3,aov]at hs;obtain⟨g1,-,g3,g4,-,g6⟩:=hs;refine⟨Hq g1,by omega,by omega,aoA.1 g6.1,aoA.1 g6.2,fun hl=>?_⟩;rcases g4 with g4 | g4
  ·omega
  unfold bC.valid mg at g4;simp only[aoq,aov]at g4;omega
 ·unfold aA.qo at ho;rw[hk]at ho;simp only[show((3:Int)==1)=false from rfl,show((3:Int)==2)=false from rfl,cond_false]at ho;have hs:=sN (fun p hp=>by
   simp only[aon,apO,or_false]at hp;rcases hp with rfl | rfl<;>simp) ho
  simp only[aon,apO,or_false,forall_eq_or_imp,forall_eq,ao4]at hs;exact BF hs.1
 unfold aA.qo at ho;rw[hk]at ho;simp only[show((2:Int)==1)=false from rfl,show((2:Int)==2)=true from rfl,cond_false,cond_true]at ho;have hs:=sN (fun p hp=>by
  simp only[aA.pK,aon,apO,or_false]at hp;rcases hp with rfl | rfl | rfl | rfl | rfl | rfl<;>simp) ho
 unfold aA.pK at hs;simp only[aon,apO,or_false,forall_eq_or_imp,forall_eq,ao4,aoP,Bool.and_eq_false_iff,ao3,aov]at hs;obtain⟨-,-,-,-,g5,-⟩:=hs;rcases g5 with g5 | g5
 ·omega
 exact g5
theorem BG{pk:Bool}{n:aA}(h:n.Lim):(fF pk n.key).length≤700000:=by
 have a1:=LP (q:=n.key.q) h.q;have a2:=qc (f:=jK) (l:=n.key.clip) (M:=70) (N:=256) (fun x _=>LM x) h.clip;have a3:=fJ [n.key.id,n.key.kind,n.key.depth];have a4:=fJ [n.key.aO];have hk:(oW pk n.key).length≤680000:=by
  unfold oW;split
  ·have:=fJ [n.key.blend]; simp at this ⊢; omega
  split
  ·rename_i hk;obtain⟨b1,b2,b3,b4,b5,b6⟩:=h.shape hk;have c1:=qc (f:=jK) (l:=n.key.path) (M:=70) (N:=256) (fun x _=>LM x) b1;have c2:=qc (f:=fD pk) (l:=n.key.fill) (M:=330000) (N:=1) (fun x hx=>by obtain⟨p,hp,rfl⟩:=aoW.1 hx; exact Di (b4 p hp)) (by simpa[aA.key]using b2);have c3:=qc (f:=fD pk) (l:=n.key.stroke) (M:=330000) (N:=1) (fun x hx=>by obtain⟨p,hp,rfl⟩:=aoW.1 hx; exact Di (b5 p hp)) (by simpa[aA.key]using b3);have c4:=fJ [n.key.aW];have c5:(if 0<n.key.stroke.length then J8 n.key.style else []).length≤300:=by
    split
    ·rename_i hs;have d1:=qc (f:=iB) (l:=n.key.style.dash) (M:=10) (N:=16) (fun x _=>iE 10 _) (b6 (by simpa[aA.key]using hs));have d2:=fJ [n.key.style.width,n.key.style.join,n.key.style.cap,n.key.style.dZ,n.key.style.phase];simp only[J8,an5,aop,aoy]at d2 ⊢; omega
    simp
   simp only[an5,aop,aoy]at c4 ⊢; omega
  split
  ·rename_i hk;have:=Vd (pk:=pk) (m:=n.key.img) (h.img hk).2.1;have:=fJ [n.key.bY];simp only[an5,aop,aoy]at this ⊢; omega
  simp
 simp only[fF,an5,aop,aoy]at a3 a4 ⊢;omega
theorem aA.Lim.acO{n:aA}(h:n.Lim):(n.kind=3→n.img.l.length≤1000000)∧(n.kind=2→(∀p∈n.fill,p.img.l.length≤1000000)∧∀p∈n.stroke,p.img.l.length≤1000000):=
 ⟨fun hk=>by have:=(h.img hk).2; omega,fun hk=>⟨fun p hp=>by have:=(rP ((h.shape hk).2.2.2.1 p hp)).2.2.2.1; omega,fun p hp=>by have:=(rP ((h.shape hk).2.2.2.2.1 p hp)).2.2.2.1; omega⟩⟩
theorem Af{s:dF}(h:s.key.valid=true):s.ns.length≤64∧∀n∈s.ns,n.Lim:=by
 obtain⟨-,h1,h2⟩:=jU.Jz.1 h;refine⟨by simpa[dF.key]using h1,fun n hn=>uU ?_⟩;rw[←kV];exact(aar.1 h2).1 _ (aoW.2 ⟨n,hn,rfl⟩)
theorem Dj{s:dF}(h:s.key.valid=true):(xJ s.key).length≤50000000:=by
 obtain⟨h1,h2⟩:=Af h;have a1:=qc (f:=fF false) (l:=s.key.ns) (M:=700000) (N:=64) (fun x hx=>by obtain⟨n,hn,rfl⟩:=aoW.1 hx; exact BG (h2 n hn)) (by simpa[dF.key]using h1);have a2:=fJ [s.key.w,s.key.h];simp only[xJ,an5,aop,aoy,Px.pb]at a2 ⊢;omega
end
end Go.Proofs.YtapmgonflgahbaaGreatDoor
section
namespace Go.Sx
open Go.Proofs Go.Proofs.YtapmgonflgahbaaGreatDoor Go.RowKit Go.Rel
section
variable{P:Program}{ops:Array Oper}{Q:Exit→Act→World→Prop}{w0 w:World}{a:Act}{os:List Oper}{n:Nat}{l:List (Nat×Value)}{bl:List (Nat×List Value)}{vs:List gX}{rs:List Row}
abbrev bR (v:Value)(B:List UInt8):Row:=⟨5,1,v,B.length,B.map dY⟩
theorem xY{v:Value}{B:List UInt8}(S:St w0 a w n l bl vs)(R:Rw w0 w bl (bR v B::rs))(d:Nat){y:Value}(Y:List UInt8)(hy:fK w 1 y Y.length (Y.map dY))(hb:(B++Y).length≤100000000000)
  (next:∀a' w' v',Stp (Ob bl (bR v B::rs)) w (Ob bl (bR v' (B++Y)::rs)) w'→Rw w0 w' bl (bR v' (B++Y)::rs)→St w0 a' w' n ((d,v')::l) bl []→wpList Tryz.prog ops Q (os.drop 1) a' w')
  (hx:NW os l=some (49,v,y,some d):=by kernel_rfl) (hd:Cb n (some d)=true:=by rfl):wpList Tryz.prog ops Q os a w:=by
 rw[an5]at hb;refine app S R 0 d rfl nX hy (by show B.length+Y.length≤9223372036854775807; omega) (by show(B.length+Y.length)*1≤140737488355328; omega) (fun a' w' v' X R S=>?_) hx hd;have e:(⟨5,1,v',B.length+Y.length,B.map dY++Y.map dY⟩:Row)=bR v' (B++Y):=by simp[bR]
 have X:Stp (Ob bl (bR v B::rs)) w (Ob bl ((⟨5,1,v',B.length+Y.length,B.map dY++Y.map dY⟩:Row)::rs)) w':=X;have R:Rw w0 w' bl ((⟨5,1,v',B.length+Y.length,B.map dY++Y.map dY⟩:Row)::rs):=R;rw[e]at X R;exact next a' w' v' X R S
theorem I9(S:St w0 a w n l bl vs){f:FuncId}{args:Array Value}{R:Ending→World→Prop}(d:Option Nat)(hc:Calls P f args w R)
  (next:∀e w',R e w'→∃V,e = .returned V∧Ext w0 w'∧∀a',St w0 a' w' n (Iy l d V) [] []→wpList P ops Q (os.drop 1) a' w') (hx:callOf P os l=some (f,args,d):=by kernel_rfl) (hd:Cb n d=true:=by rfl):wpList P ops Q os a w:=by
 cases os with
 | nil=>cases hx
 | cons o os =>
  unfold callOf at hx;simp only at hx;split at hx
  ·rename_i f' args' hg hav hev;simp only[an8,aob]at hx;obtain⟨rfl,rfl,rfl⟩:=hx;simp only[aoP]at hav;have hrun:(execOp a.eval o).run P w = .ok (.enter f' args') w:=qM (Std.act a) (jP (dU S.s) o) (p:=[]) rfl hav.1 (by simpa using hav.2) hev;unfold wpList;rw[an6 (by simp[Region.wanted,hg])];left;unfold Oper.wp;rw[hrun];simp only[Oper.upon];refine hc.mono fun e w' hR=>?_;obtain⟨V,rfl,hE,next⟩:=next e w' hR;exact next _ ⟨wP S.s hd V,hE,fun p hp=>(by cases hp),List.nodup_nil,fun m hm=>by cases hm⟩
  cases hx
theorem zC{f:FuncId}{fn:Func}{c:Code}{args:List Value}{R:Ending→World→Prop}{n:Nat}(hf:P.funcs[f]?=some fn)(hn:fn.ntmps=n)(hE:Ext w0 w)
  (h:∀a,St w0 a w n ((List.range args.length).zip args) [] []→c.wp P (bodyPost P fn R) a w) (hb':fn.body=some c:=by rfl) (hsz:decide (args.length≤n)=true:=by kernel_rfl):Calls P f args.toArray w R:=
 Vp.enter hf hb' (by rw[hn]; simpa using hsz) fun a s=>h a ⟨(by rw[hn]at s; simpa using s),hE,fun p hp=>(by cases hp),List.nodup_nil,fun m hm=>by cases hm⟩
end
theorem abE{α:Type}{f:α→List Value}{k:Nat}{w:World}{b:Nat}(L:List α)(hf:∀x,(f x).length=k)(hx:Bx w b (L.flatMap f).toArray)(hl:L.length≤maxLen):aV k f w (.slice (some ⟨b,0,none⟩) L.length L.length) L:=
 ⟨_,_,rfl,hl,.inr ⟨b,0,rfl,hx.1,an7 _,fun i hi j hj=>by
  have:=hx.2.1 (0+i*k+j)
  rw[aoY]at this ⊢
  rw[this,←tX hf L i hi j hj]; simp⟩⟩
end Go.Sx
namespace Go.Proofs.YtapmgonflgahbaaGreatDoor
open Go.RowKit
theorem jg{base:Nat}{L:List Int}{v:Value}{w:World}(h:Sx.dX base (L.map fun x => .i x) (some L.length) v w)(hl:L.length≤maxLen):SH w v L:=by
 obtain⟨b,rfl,-,hx⟩:=h;exact Sx.iO (f:=fun x:Int => .i x) L hx hl
def kY:List Int→Prop
 | []=>True
 | x::L=>I64 x∧kY L
theorem kY.all:∀{L:List Int},kY L→∀x∈L,I64 x
 | _::_,h,x,hx=>by
  rcases aon.1 hx with rfl | hx
  ·exact h.1
  ·exact kY.all h.2 x hx
theorem lK{w0 w:World}{base:Nat}{v:Value}{B:List UInt8}{bl:List (Nat×List Value)}(R:Sx.Rw w0 w bl [])(h:OwnB base w v B)(hb:∀p∈bl,p.1<base)(h0:w0.heap.size≤base):Sx.Rw w0 w bl [Sx.bR v B]:=
 R.add h (fun b hb'=>by
  simp only[Sx.Ob,List.filterMap_nil,ao6]at hb'
  obtain⟨p,hp,rfl⟩:=aoW.1 hb'
  exact hb p hp) h0
end Go.Proofs.YtapmgonflgahbaaGreatDoor
end
section
namespace Go.Proofs.YtapmgonflgahbaaGreatDoor
open En
variable{α:Type}{K:Nat}
theorem LU{s:dF}(h:s.key.valid=true):∀n∈s.ns,n.checkN=0:=fun n hn=>by
 obtain⟨-,h1,h2⟩:=jU.Jz.1 h;rw[←kV];exact(aar.1 h2).1 _ (aoW.2 ⟨n,hn,rfl⟩)
end Go.Proofs.YtapmgonflgahbaaGreatDoor
end
section
namespace Go.Sx
open Go.Proofs Go.Proofs.YtapmgonflgahbaaGreatDoor Go.RowKit Go.Rel
section
variable{P:Program}{ops:Array Oper}{Q:Exit→Act→World→Prop}{w0 w:World}{a:Act}{os:List Oper}{n:Nat}{l:List (Nat×Value)}{bl:List (Nat×List Value)}{vs:List gX}
end
end Go.Sx
namespace Go.Proofs.YtapmgonflgahbaaGreatDoor
open Go.RowKit En
variable{α β:Type}{K:Nat}
theorem Dk(x:Int)(L:List Int):bH (x::L)=iB x++bH L:=rfl
theorem aaR(x:Int):bH [x]=iB x:=by rw[Dk]; exact ao6 _
theorem S9(x:Int):0<(iB x).length:=xu 9 _
def ptB(p:kU):List UInt8:=bH [p.x,p.y]
theorem XD(s:eU):jK s=iB s.verb++(ptB s.a++(ptB s.b++ptB s.c)):=by
 unfold jK ptB; simp only[Dk,aoU]; rfl
theorem aaS(s:eU):0<(jK s).length:=by rw[XD,an5]; have:=S9 s.verb; omega
theorem XE(s:fH):0<(jJ s).length:=by unfold jJ; rw[an5,aaR]; have:=S9 s.o; omega
end Go.Proofs.YtapmgonflgahbaaGreatDoor
end
section
namespace Nb
end Nb
namespace Go.Proofs.YtapmgonflgahbaaGreatDoor
open Go.RowKit En
variable{α:Type}
theorem Hr{w w1:World}{x0 x1 x2 x3:Value}{t:TypeId}(hb:Ext (w.alloc (.cells #[x0,x1,x2,x3] t)) w1) :
  w1.cell? ⟨w.heap.size,0,none⟩=some x0∧w1.cell? ⟨w.heap.size,1,none⟩=some x1∧w1.cell? ⟨w.heap.size,2,none⟩=some x2∧w1.cell? ⟨w.heap.size,3,none⟩=some x3∧(∀i,w1.frozen? ⟨w.heap.size,i,none⟩=false)∧w.heap.size<w1.heap.size:=by
 obtain⟨h1,h2,h3⟩:=kH hb;exact⟨by rw[h1]; rfl,by rw[h1]; rfl,by rw[h1]; rfl,by rw[h1]; rfl,h2,h3⟩
end Go.Proofs.YtapmgonflgahbaaGreatDoor
end
section
namespace Go.Proofs.YtapmgonflgahbaaGreatDoor
open En
variable{α β:Type}{K:Nat}
theorem JG(q:Q6):tq q=l9 q.a++(l9 q.b++(l9 q.c++(l9 q.d++(l9 q.e++l9 q.f)))):=by simp[tq]
end Go.Proofs.YtapmgonflgahbaaGreatDoor
end
theorem anQ:type_of% @Go.Sx.xY:=@Go.Sx.xY
