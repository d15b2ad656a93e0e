/- Plain laws of signed numbers and of rational numbers by value: no program in sight. -/
import Derived.Test.YtfmkkemfhjkajaaGreatDoorRat
namespace Go.Proofs.YtfmkkemfhjkajaaGreatDoor
open Go.RowKit
variable{α:Type}
def zv(n:Bool)(a:Nat):Int:=if n then -(a:Int)else (a:Int)
theorem Rt(n:Bool)(a:Nat):decide (zv n a<0)=(n&&decide (0<a)):=by
 unfold zv;cases n
 ·simp
 rw[amJ,decide_eq_decide]; simp
theorem kR(n:Bool)(a:Nat):(zv n a).natAbs=a:=by unfold zv; cases n<;>simp
theorem Ru(n:Bool)(a:Nat):zv (!n) a = -zv n a:=by unfold zv; cases n<;>simp
theorem KE(z:Int):zv (decide (z<0)) z.natAbs=z:=by
 unfold zv;by_cases h:z<0
 ·rw[ame h,ale rfl]; omega
 rw[amr h,ak9 (by simp)]; omega
theorem Zy(n m:Bool)(a b:Nat):zv n a*zv m b=zv (n != m) (a*b):=by unfold zv; cases n<;>cases m<;>simp[Int.mul_neg,Int.neg_mul,Int.neg_neg]
theorem CW(n:Bool)(a b:Nat):zv n a+zv n b=zv n (a+b):=by
 unfold zv;cases n
 ·simp
 simp only[if_true]; omega
theorem wS{n m:Bool}{a b:Nat}(h:n≠m)(hle:b≤a):zv n a+zv m b=zv n (a-b):=by
 unfold zv;cases n<;>cases m<;>simp only[ne_eq,not_true_eq_false,reduceCtorEq,if_true,if_false,ang]at * <;> omega
theorem Ah{n m:Bool}{a b:Nat}(h:n≠m)(hle:a≤b):zv n a+zv m b=zv m (b-a):=by
 rw[Int.add_comm]; exact wS (fun e=>h e.symm) hle
theorem Zz(n:Bool)(a:Nat):rX n a=(zv n a).sign:=by
 unfold rX zv;rcases alS a with h | h
 ·subst h; cases n<;>rfl
 rw[ak9 (by omega)];cases n
 ·rw[ak9 (by simp),ak9 (by simp),Int.sign_eq_one_of_pos (by omega)]
 rw[ale rfl,ale rfl,Int.sign_eq_neg_one_of_neg (by omega)]
abbrev oJ (base:Nat)(w:World)(v:Value)(z:Int):Prop:=aF base w v (decide (z<0)) z.natAbs
theorem tN{base:Nat}{w:World}{v:Value}{n:Bool}{a:Nat}(h:aF base w v (n&&decide (0<a)) a):oJ base w v (zv n a):=by
 unfold oJ; rw[Rt,kR]; exact h
def nz(x:Int)(d:Nat):Bool×Nat×Nat:=nrm (decide (x<0)) false x.natAbs d
def qz(r:Bool×Nat×Nat):Int:=zv r.1 r.2.1
def nO(r s:Bool×Nat×Nat):Bool×Nat×Nat:=nz (qz r*qz s) (r.2.2*s.2.2)
def EU(r s:Bool×Nat×Nat):Bool×Nat×Nat:=nz (qz r*s.2.2+qz s*r.2.2) (r.2.2*s.2.2)
def tV(r s:Bool×Nat×Nat):Bool×Nat×Nat:=nz (qz r*s.2.2-qz s*r.2.2) (r.2.2*s.2.2)
def kM(r s:Bool×Nat×Nat):Int:=(qz r*s.2.2-qz s*r.2.2).sign
def uq(r:Bool×Nat×Nat):Bool×Nat×Nat:=(!r.1&&decide (0<r.2.1),r.2)
theorem adY(r:Bool×Nat×Nat):qz (uq r) = -qz r:=by
 obtain⟨n,a,b⟩:=r;unfold qz uq zv;cases n
 ·simp only[Bool.not_false,amJ,alz,ang,if_false];split<;>omega
 simp
theorem abU(n1 n2:Bool)(l m:List UInt32):(Na.au (nrm n1 n2 (Na.val l) (Na.val m)).2.1).length≤l.length∧(Na.au (nrm n1 n2 (Na.val l) (Na.val m)).2.2).length≤max 1 m.length:=by
 unfold nrm;split
 ·have h1:(Na.au 1).length≤1:=Na.dM (by decide);exact⟨by rw[Na.mO]; simp,by simp only; omega⟩
 have h1:=fF (am1 (Na.val l) (Nat.gcd (Na.val l) (Na.val m)));have h2:=fF (am1 (Na.val m) (Nat.gcd (Na.val l) (Na.val m)));have:=bD l;have:=bD m;simp only; omega
open Go.RowKit
variable{α:Type}
set_option linter.unusedVariables false
def aP(k:Nat)(f:α→List Value)(w:World)(v:Value)(l:List α):Prop:=
 ∃a cap,v = .slice a l.length cap∧cap≤maxLen ∧
  ((l=[]∧(a=none→cap=0)) ∨
   ∃b o,a=some ⟨b,o,none⟩∧b<w.heap.size∧l.length≤cap∧∀i (h:i<l.length) (j:Nat),j<k→w.cell? ⟨b,o+i*k+j,none⟩=(f l[i])[j]?)
theorem aP.below{k:Nat}{f:α→List Value}{w w':World}{v:Value}{l:List α}(h:aP k f w v l)(hb:Below w.heap.size w w'):aP k f w' v l:=by
 obtain⟨a,cap,hv,hm,h⟩:=h;refine⟨a,cap,hv,hm,?_⟩;rcases h with h | ⟨b,o,ha,hlt,hl,hc⟩
 ·exact .inl h
 exact .inr ⟨b,o,ha,by have:=hb.size; omega,hl,fun i hi j hj=>by rw[hb.cell (p:=⟨b,o+i*k+j,none⟩) hlt]; exact hc i hi j hj⟩
theorem aP.shape{k:Nat}{f:α→List Value}{w:World}{v:Value}{l:List α}(h:aP k f w v l):∃a cap,v = .slice a l.length cap:=by
 obtain⟨a,cap,h,_⟩:=h; exact⟨a,cap,h⟩
theorem aP.len{k:Nat}{f:α→List Value}{w:World}{v:Value}{l:List α}(h:aP k f w v l):l.length≤maxLen:=by
 obtain⟨a,cap,rfl,hm,h⟩:=h;rcases h with ⟨rfl,_⟩ | ⟨b,o,rfl,hb,hl,hc⟩
 ·simp
 omega
theorem nU(k:Nat)(f:α→List Value)(w:World):aP k f w (.slice none 0 0) []:=⟨none,0,rfl,alg _,.inl ⟨rfl,fun _=>rfl⟩⟩
theorem Jh{k:Nat}{f:α→List Value}{w:World}{v:Value}{l:List α}(h:aP k f w v l)(hp:0<l.length) :
  ∃b o cap,v = .slice (some ⟨b,o,none⟩) l.length cap∧b<w.heap.size∧l.length≤cap∧cap≤maxLen∧∀i (h:i<l.length) (j:Nat),j<k→w.cell? ⟨b,o+i*k+j,none⟩=(f l[i])[j]?:=by
 obtain⟨a,cap,rfl,hm,h⟩:=h;rcases h with ⟨rfl,_⟩ | ⟨b,o,rfl,hb,hl,hc⟩
 ·simp at hp
 exact⟨b,o,cap,rfl,hb,hl,hm,hc⟩
theorem dR{f:α→Value}{w:World}{v:Value}{l:List α}(h:eF f w v l):aP 1 (fun x=>[f x]) w v l:=by
 obtain⟨a,cap,hv,hm,h⟩:=h;refine⟨a,cap,hv,hm,?_⟩;rcases h with h | ⟨b,o,ha,hlt,hl,hc⟩
 ·exact .inl h
 refine .inr ⟨b,o,ha,hlt,hl,fun i hi j hj=>?_⟩;obtain rfl:j=0:=by omega
 simpa using hc i hi
abbrev I64 (x:Int):Prop := -9223372036854775808≤x∧x≤9223372036854775807
structure bK where
 n1:Bool
 a1:Option Addr
 c1:Nat
 l1:List UInt32
 n2:Bool
 a2:Option Addr
 c2:Nat
 l2:List UInt32
def bK.s1(r:bK):Value := .slice r.a1 r.l1.length r.c1
def bK.s2(r:bK):Value := .slice r.a2 r.l2.length r.c2
def bK.cells(r:bK):List Value:=[.bool r.n1,r.s1,.bool r.n2,r.s2]
def bK.v(r:bK):Value := .agg #[.bool r.n1,r.s1,.bool r.n2,r.s2]
def bK.ok(w:World)(r:bK):Prop:=aC w r.s1 r.l1∧aC w r.s2 r.l2
def bK.fit(k:Nat)(r:bK):Prop:=r.l1.length≤k∧r.l2.length≤k
def bK.q(r:bK):Bool×Nat×Nat:=nrm r.n1 r.n2 (Na.val r.l1) (Na.val r.l2)
theorem bK.ok.below{w w':World}{r:bK}(h:r.ok w)(hb:Ext w w'):r.ok w':=⟨h.1.below hb,h.2.below hb⟩
theorem bK.fit.mono{k k':Nat}{r:bK}(h:r.fit k)(hk:k≤k'):r.fit k':=⟨alq h.1 hk,alq h.2 hk⟩
structure aQ where
 a:bK
 b:bK
 c:bK
 d:bK
 e:bK
 f:bK
def aQ.cells(t:aQ):List Value:=t.a.cells++t.b.cells++t.c.cells++t.d.cells++t.e.cells++t.f.cells
def aQ.v(t:aQ):Value := .agg t.cells.toArray
def aQ.ok(w:World)(t:aQ):Prop:=t.a.ok w∧t.b.ok w∧t.c.ok w∧t.d.ok w∧t.e.ok w∧t.f.ok w
def aQ.fit(k:Nat)(t:aQ):Prop:=t.a.fit k∧t.b.fit k∧t.c.fit k∧t.d.fit k∧t.e.fit k∧t.f.fit k
theorem aQ.ok.below{w w':World}{t:aQ}(h:t.ok w)(hb:Ext w w'):t.ok w':=
 ⟨h.1.below hb,h.2.1.below hb,h.2.2.1.below hb,h.2.2.2.1.below hb,h.2.2.2.2.1.below hb,h.2.2.2.2.2.below hb⟩
def bF(q:Bool×Nat×Nat):Nat:=max (bl q.2.1) (bl q.2.2)
def aQ.valid(t:aQ):Bool:=
 decide (bF t.a.q≤256)&&(decide (bF t.b.q≤256)&&(decide (bF t.c.q≤256)&&(decide (bF t.d.q≤256)&&(decide (bF t.e.q≤256)&&decide (bF t.f.q≤256)))))
def aQ.vW(t:aQ):Bool×Nat×Nat:=tV (nO t.a.q t.d.q) (nO t.b.q t.c.q)
def q0:Bool×Nat×Nat:=(false,0,1)
def oG(p q:Bool×Nat×Nat):Bool:=kM p q==0
def aQ.eq(t u:aQ):Bool:=oG t.a.q u.a.q&&(oG t.b.q u.b.q&&(oG t.c.q u.c.q&&(oG t.d.q u.d.q&&(oG t.e.q u.e.q&&oG t.f.q u.f.q))))
structure kK where
 x:Int
 y:Int
deriving DecidableEq
def kK.ok(p:kK):Prop:=I64 p.x∧I64 p.y
def cok(x:Int):Bool:=decide (-1048576≤x)&&decide (x≤1048576)
def kK.valid(p:kK):Bool:=cok p.x&&cok p.y
def kK.zero(p:kK):Bool:=(p.x==0)&&(p.y==0)
structure dY where
 verb:Int
 a:kK
 b:kK
 c:kK
deriving DecidableEq
def dY.cells(s:dY):List Value:=[.i s.verb,.i s.a.x,.i s.a.y,.i s.b.x,.i s.b.y,.i s.c.x,.i s.c.y]
def dY.ok(s:dY):Prop:=I64 s.verb∧s.a.ok∧s.b.ok∧s.c.ok
def named(v:Int):Int:=if v=4 then 3 else if v=3 then 2 else if v=1∨v=2 then 1 else if v=5 then 0 else -1
def kS(v:Int)(i:Int)(p:kK):Bool:=p.valid && !(decide (named v≤i) && !p.zero)
def dY.fits(s:dY):Bool:=kS s.verb 0 s.a&&(kS s.verb 1 s.b&&kS s.verb 2 s.c)
def dY.stands(last:Int)(s:dY):Bool:=(s.verb==1)||((last != 5)&&((s.verb != 5)||(last != 1)))
def dY.err(last:Int)(s:dY):Int:=if named s.verb<0 then 2 else if s.stands last=false then 10 else if s.fits=false then 6 else 0
def lT:Int→Int→List dY→Int×Int
 | _,_,[]=>(0,0)
 | last,i,s::l=>if s.err last=0 then lT s.verb (i+1) l else (s.err last,i)
def dK(l:List dY):Int×Int:=if 256<(l.length:Int)then (5,256)else lT 5 0 l
def iY(l:List dY):Bool:=(dK l).1==0
structure dF where
 r:UInt8
 g:UInt8
 b:UInt8
 a:UInt8
deriving DecidableEq
def dF.cells(p:dF):List Value:=[QU p.r,QU p.g,QU p.b,QU p.a]
def dF.valid(p:dF):Bool:=decide (p.r≤p.a)&&(decide (p.g≤p.a)&&decide (p.b≤p.a))
structure bW where
 w:Int
 h:Int
 sa:Option Addr
 sc:Nat
 l:List dF
def bW.s(m:bW):Value := .slice m.sa m.l.length m.sc
def bW.cells(m:bW):List Value:=[.i m.w,.i m.h,m.s]
def bW.v(m:bW):Value := .agg #[.i m.w,.i m.h,m.s]
def bW.ok(W:World)(m:bW):Prop:=I64 m.w∧I64 m.h∧aP 4 dF.cells W m.s m.l
theorem bW.ok.below{w w':World}{t:bW}(h:t.ok w)(hb:Ext w w'):t.ok w':=⟨h.1,h.2.1,h.2.2.below hb⟩
def side(n:Int):Bool:=decide (1≤n)&&decide (n≤4096)
def bW.size(m:bW):Bool:=side m.w&&(side m.h&&decide (m.w*m.h≤65536))
def bW.valid(m:bW):Bool:=m.size&&(((m.l.length:Int)==m.w*m.h)&&m.l.all dF.valid)
def bW.eq(m n:bW):Bool:=(m.w==n.w)&&((m.h==n.h)&&(m.l==n.l))
structure fM where
 o:Int
 c:dF
deriving DecidableEq
def fM.cells(s:fM):List Value:=[.i s.o,QU s.c.r,QU s.c.g,QU s.c.b,QU s.c.a]
def fM.ok(s:fM):Prop:=I64 s.o
def bZ:Int→List fM→Bool
 | _,[]=>true
 | at',s::l=>decide (at'≤s.o)&&(decide (s.o≤65536)&&bZ s.o l)
def eG(l:List fM):Bool:=decide (1≤l.length)&&(decide (l.length≤16)&&bZ 0 l)
structure ak where
 kind:Int
 color:dF
 p0:kK
 p1:kK
 bn:Int
 sva:Option Addr
 svc:Nat
 stops:List fM
 spread:Int
 img:bW
 bP:Int
 t:aQ
def ak.sv(p:ak):Value := .slice p.sva p.stops.length p.svc
def ak.cells(p:ak):List Value:=
 [.i p.kind,QU p.color.r,QU p.color.g,QU p.color.b,QU p.color.a,.i p.p0.x,.i p.p0.y,.i p.p1.x,.i p.p1.y,.i p.bn,p.sv,.i p.spread,
  .i p.img.w,.i p.img.h,p.img.s,.i p.bP]++p.t.cells
def ak.v(p:ak):Value := .agg p.cells.toArray
def ak.ok(w:World)(p:ak):Prop:=
 I64 p.kind∧p.p0.ok∧p.p1.ok∧I64 p.bn∧aP 5 fM.cells w p.sv p.stops∧(∀s∈p.stops,s.ok)∧I64 p.spread∧p.img.ok w∧I64 p.bP∧p.t.ok w
theorem ak.ok.below{w w':World}{p:ak}(h:p.ok w)(hb:Ext w w'):p.ok w':=by
 obtain⟨h1,h2,h3,h4,h5,h6,h7,h8,h9,h10⟩:=h;exact⟨h1,h2,h3,h4,h5.below hb,h6,h7,h8.below hb,h9,h10.below hb⟩
def dF.zero(p:dF):Bool:=(p.r==0)&&((p.g==0)&&((p.b==0)&&(p.a==0)))
def iO(n:Int):Bool:=decide (1≤n)&&decide (n≤3)
def bW.none(m:bW):Bool:=(m.w==0)&&((m.h==0)&&m.l.isEmpty)
structure aX where
 width:Int
 join:Int
 cap:Int
 dX:Int
 sa:Option Addr
 sc:Nat
 dash:List Int
 phase:Int
def aX.s(p:aX):Value := .slice p.sa p.dash.length p.sc
def yL(x:Int):Value := .i x
def aX.cells(p:aX):List Value:=[.i p.width,.i p.join,.i p.cap,.i p.dX,p.s,.i p.phase]
def aX.v(p:aX):Value := .agg #[.i p.width,.i p.join,.i p.cap,.i p.dX,p.s,.i p.phase]
def aX.ok(w:World)(p:aX):Prop:=I64 p.width∧I64 p.join∧I64 p.cap∧I64 p.dX∧eF yL w p.s p.dash∧(∀x∈p.dash,I64 x)∧I64 p.phase
theorem aX.ok.below{w w':World}{p:aX}(h:p.ok w)(hb:Ext w w'):p.ok w':=⟨h.1,h.2.1,h.2.2.1,h.2.2.2.1,h.2.2.2.2.1.below hb,h.2.2.2.2.2⟩
structure aj where
 id:Int
 kind:Int
 depth:Int
 t:aQ
 csa:Option Addr
 csc:Nat
 clip:List dY
 aJ:Int
 dH:UInt8
 blend:Int
 isolated:Bool
 bM:Bool
 psa:Option Addr
 psc:Nat
 path:List dY
 aO:Int
 fsa:Option Addr
 fsc:Nat
 fill:List ak
 style:aX
 ssa:Option Addr
 ssc:Nat
 stroke:List ak
 img:bW
 bP:Int
def aj.cs(n:aj):Value := .slice n.csa n.clip.length n.csc
def aj.ps(n:aj):Value := .slice n.psa n.path.length n.psc
def aj.fs(n:aj):Value := .slice n.fsa n.fill.length n.fsc
def aj.ss(n:aj):Value := .slice n.ssa n.stroke.length n.ssc
def aj.cells(n:aj):List Value:=
 [.i n.id,.i n.kind,.i n.depth]++n.t.cells++[n.cs,.i n.aJ,QU n.dH,.i n.blend,.bool n.isolated,.bool n.bM,n.ps,.i n.aO,n.fs]++n.style.cells ++
  [n.ss]++n.img.cells++[.i n.bP]
def aj.v(n:aj):Value := .agg n.cells.toArray
abbrev nT (w:World)(v:Value)(l:List dY):Prop:=aP 7 dY.cells w v l∧∀s∈l,s.ok
abbrev iL (w:World)(v:Value)(l:List ak):Prop:=aP 40 ak.cells w v l∧∀p∈l,p.ok w
def aj.ok(w:World)(n:aj):Prop:=
 I64 n.id∧I64 n.kind∧I64 n.depth∧n.t.ok w∧nT w n.cs n.clip∧I64 n.aJ∧I64 n.blend∧nT w n.ps n.path∧I64 n.aO∧iL w n.fs n.fill∧n.style.ok w∧iL w n.ss n.stroke ∧
  n.img.ok w∧I64 n.bP
theorem nT.below{w w':World}{v:Value}{l:List dY}(h:nT w v l)(hb:Ext w w'):nT w' v l:=⟨h.1.below hb,h.2⟩
theorem iL.below{w w':World}{v:Value}{l:List ak}(h:iL w v l)(hb:Ext w w'):iL w' v l:=⟨h.1.below hb,fun p hp=>(h.2 p hp).below hb⟩
theorem aj.ok.below{w w':World}{n:aj}(h:n.ok w)(hb:Ext w w'):n.ok w':=by
 obtain⟨h1,h2,h3,h4,h5,h6,h7,h8,h9,h10,h11,h12,h13,UL⟩:=h;exact⟨h1,h2,h3,h4.below hb,h5.below hb,h6,h7,h8.below hb,h9,h10.below hb,h11.below hb,h12.below hb,h13.below hb,UL⟩
end Go.Proofs.YtfmkkemfhjkajaaGreatDoor
