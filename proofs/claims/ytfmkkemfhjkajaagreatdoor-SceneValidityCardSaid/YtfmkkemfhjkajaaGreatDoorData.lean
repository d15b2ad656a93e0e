/- Plain laws of signed numbers and of rational numbers by value: no program in sight. -/
import Derived.Test.YtfmkkemfhjkajaaGreatDoorRat
namespace Go.Proofs.YtfmkkemfhjkajaaGreatDoor
open Go.RowKit
variable{α:Type}
def zv(n:Bool)(a:Nat):Int:=if n then -(a:Int)else (a:Int)
theorem Qe(n:Bool)(a:Nat):decide (zv n a<0)=(n&&decide (0<a)):=by
 unfold zv
 cases n
 ·simp
 ·rw[Bool.true_and,decide_eq_decide]; simp
theorem kQ(n:Bool)(a:Nat):(zv n a).natAbs=a:=by unfold zv; cases n<;>simp
theorem Qg(n:Bool)(a:Nat):zv (!n) a = -zv n a:=by unfold zv; cases n<;>simp
theorem JQ(z:Int):zv (decide (z<0)) z.natAbs=z:=by
 unfold zv
 by_cases h:z<0
 ·rw[decide_eq_true h,if_pos rfl]; omega
 ·rw[decide_eq_false h,if_neg (by simp)]; omega
theorem Ya(n m:Bool)(a b:Nat):zv n a*zv m b=zv (n != m) (a*b):=by unfold zv; cases n<;>cases m<;>simp[Int.mul_neg,Int.neg_mul,Int.neg_neg]
theorem Cm(n:Bool)(a b:Nat):zv n a+zv n b=zv n (a+b):=by
 unfold zv
 cases n
 ·simp
 ·simp only[if_true]; omega
theorem wF{n m:Bool}{a b:Nat}(h:n≠m)(hle:b≤a):zv n a+zv m b=zv n (a-b):=by
 unfold zv
 cases n<;>cases m<;>simp only[ne_eq,not_true_eq_false,reduceCtorEq,if_true,if_false,Bool.false_eq_true]at * <;> omega
theorem zZ{n m:Bool}{a b:Nat}(h:n≠m)(hle:a≤b):zv n a+zv m b=zv m (b-a):=by
 rw[Int.add_comm]; exact wF (fun e=>h e.symm) hle
theorem Yb(n:Bool)(a:Nat):qP n a=(zv n a).sign:=by
 unfold qP zv
 rcases Nat.eq_zero_or_pos a with h | h
 ·subst h; cases n<;>rfl
 ·rw[if_neg (by omega)]
  cases n
  ·rw[if_neg (by simp),if_neg (by simp),Int.sign_eq_one_of_pos (by omega)]
  ·rw[if_pos rfl,if_pos rfl,Int.sign_eq_neg_one_of_neg (by omega)]
abbrev oI (base:Nat)(w:World)(v:Value)(z:Int):Prop:=aQ base w v (decide (z<0)) z.natAbs
theorem tJ{base:Nat}{w:World}{v:Value}{n:Bool}{a:Nat}(h:aQ base w v (n&&decide (0<a)) a):oI base w v (zv n a):=by
 unfold oI; rw[Qe,kQ]; exact h
def nz(x:Int)(d:Nat):Bool×Nat×Nat:=nrm (decide (x<0)) false x.natAbs d
def qz(r:Bool×Nat×Nat):Int:=zv r.1 r.2.1
def nK(r s:Bool×Nat×Nat):Bool×Nat×Nat:=nz (qz r*qz s) (r.2.2*s.2.2)
def EC(r s:Bool×Nat×Nat):Bool×Nat×Nat:=nz (qz r*s.2.2+qz s*r.2.2) (r.2.2*s.2.2)
def tK(r s:Bool×Nat×Nat):Bool×Nat×Nat:=nz (qz r*s.2.2-qz s*r.2.2) (r.2.2*s.2.2)
def kJ(r s:Bool×Nat×Nat):Int:=(qz r*s.2.2-qz s*r.2.2).sign
def uj(r:Bool×Nat×Nat):Bool×Nat×Nat:=(!r.1&&decide (0<r.2.1),r.2)
theorem acS(r:Bool×Nat×Nat):qz (uj r) = -qz r:=by
 obtain⟨n,a,b⟩:=r
 unfold qz uj zv
 cases n
 ·simp only[Bool.not_false,Bool.true_and,decide_eq_true_eq,Bool.false_eq_true,if_false]
  split<;>omega
 ·simp
theorem aaK(n1 n2:Bool)(l m:List UInt32):(Na.au (nrm n1 n2 (Na.val l) (Na.val m)).2.1).length≤l.length∧(Na.au (nrm n1 n2 (Na.val l) (Na.val m)).2.2).length≤max 1 m.length:=by
 unfold nrm
 split
 ·have h1:(Na.au 1).length≤1:=Na.dJ (by decide)
  exact⟨by rw[Na.kX]; simp,by simp only; omega⟩
 ·have h1:=fF (Nat.div_le_self (Na.val l) (Nat.gcd (Na.val l) (Na.val m)))
  have h2:=fF (Nat.div_le_self (Na.val m) (Nat.gcd (Na.val l) (Na.val m)))
  have:=bD l
  have:=bD m
  simp only; omega
open Go.RowKit
variable{α:Type}
set_option linter.unusedVariables false
def aT(k:Nat)(f:α→List Value)(w:World)(v:Value)(l:List α):Prop:=
 ∃a cap,v = .slice a l.length cap∧cap≤maxLen ∧
  ((l=[]∧(a=none→cap=0)) ∨
   ∃b o,a=some ⟨b,o,none⟩∧b<w.heap.size∧l.length≤cap∧∀i (h:i<l.length) (j:Nat),j<k→w.cell? ⟨b,o+i*k+j,none⟩=(f l[i])[j]?)
theorem aT.below{k:Nat}{f:α→List Value}{w w':World}{v:Value}{l:List α}(h:aT k f w v l)(hb:Below w.heap.size w w'):aT k f w' v l:=by
 obtain⟨a,cap,hv,hm,h⟩:=h
 refine⟨a,cap,hv,hm,?_⟩
 rcases h with h | ⟨b,o,ha,hlt,hl,hc⟩
 ·exact .inl h
 ·exact .inr ⟨b,o,ha,by have:=hb.size; omega,hl,fun i hi j hj=>by rw[hb.cell (p:=⟨b,o+i*k+j,none⟩) hlt]; exact hc i hi j hj⟩
theorem aT.shape{k:Nat}{f:α→List Value}{w:World}{v:Value}{l:List α}(h:aT k f w v l):∃a cap,v = .slice a l.length cap:=by
 obtain⟨a,cap,h,_⟩:=h; exact⟨a,cap,h⟩
theorem aT.len{k:Nat}{f:α→List Value}{w:World}{v:Value}{l:List α}(h:aT k f w v l):l.length≤maxLen:=by
 obtain⟨a,cap,rfl,hm,h⟩:=h
 rcases h with ⟨rfl,_⟩ | ⟨b,o,rfl,hb,hl,hc⟩
 ·simp
 ·omega
theorem nR(k:Nat)(f:α→List Value)(w:World):aT k f w (.slice none 0 0) []:=⟨none,0,rfl,Nat.zero_le _,.inl ⟨rfl,fun _=>rfl⟩⟩
theorem IK{k:Nat}{f:α→List Value}{w:World}{v:Value}{l:List α}(h:aT k f w v l)(hp:0<l.length) :
  ∃b o cap,v = .slice (some ⟨b,o,none⟩) l.length cap∧b<w.heap.size∧l.length≤cap∧cap≤maxLen∧∀i (h:i<l.length) (j:Nat),j<k→w.cell? ⟨b,o+i*k+j,none⟩=(f l[i])[j]?:=by
 obtain⟨a,cap,rfl,hm,h⟩:=h
 rcases h with ⟨rfl,_⟩ | ⟨b,o,rfl,hb,hl,hc⟩
 ·simp at hp
 ·exact⟨b,o,cap,rfl,hb,hl,hm,hc⟩
theorem eG{f:α→Value}{w:World}{v:Value}{l:List α}(h:dO f w v l):aT 1 (fun x=>[f x]) w v l:=by
 obtain⟨a,cap,hv,hm,h⟩:=h
 refine⟨a,cap,hv,hm,?_⟩
 rcases h with h | ⟨b,o,ha,hlt,hl,hc⟩
 ·exact .inl h
 ·refine .inr ⟨b,o,ha,hlt,hl,fun i hi j hj=>?_⟩
  obtain rfl:j=0:=by omega
  simpa using hc i hi
abbrev I64 (x:Int):Prop := -9223372036854775808≤x∧x≤9223372036854775807
structure bM where
 n1:Bool
 a1:Option Addr
 c1:Nat
 l1:List UInt32
 n2:Bool
 a2:Option Addr
 c2:Nat
 l2:List UInt32
def bM.s1(r:bM):Value := .slice r.a1 r.l1.length r.c1
def bM.s2(r:bM):Value := .slice r.a2 r.l2.length r.c2
def bM.cells(r:bM):List Value:=[.bool r.n1,r.s1,.bool r.n2,r.s2]
def bM.v(r:bM):Value := .agg #[.bool r.n1,r.s1,.bool r.n2,r.s2]
def bM.ok(w:World)(r:bM):Prop:=aG w r.s1 r.l1∧aG w r.s2 r.l2
def bM.fit(k:Nat)(r:bM):Prop:=r.l1.length≤k∧r.l2.length≤k
def bM.q(r:bM):Bool×Nat×Nat:=nrm r.n1 r.n2 (Na.val r.l1) (Na.val r.l2)
theorem bM.ok.below{w w':World}{r:bM}(h:r.ok w)(hb:Ext w w'):r.ok w':=⟨h.1.below hb,h.2.below hb⟩
theorem bM.fit.mono{k k':Nat}{r:bM}(h:r.fit k)(hk:k≤k'):r.fit k':=⟨Nat.le_trans h.1 hk,Nat.le_trans h.2 hk⟩
structure aV where
 a:bM
 b:bM
 c:bM
 d:bM
 e:bM
 f:bM
def aV.cells(t:aV):List Value:=t.a.cells++t.b.cells++t.c.cells++t.d.cells++t.e.cells++t.f.cells
def aV.v(t:aV):Value := .agg t.cells.toArray
def aV.ok(w:World)(t:aV):Prop:=t.a.ok w∧t.b.ok w∧t.c.ok w∧t.d.ok w∧t.e.ok w∧t.f.ok w
def aV.fit(k:Nat)(t:aV):Prop:=t.a.fit k∧t.b.fit k∧t.c.fit k∧t.d.fit k∧t.e.fit k∧t.f.fit k
theorem aV.ok.below{w w':World}{t:aV}(h:t.ok w)(hb:Ext w w'):t.ok w':=
 ⟨h.1.below hb,h.2.1.below hb,h.2.2.1.below hb,h.2.2.2.1.below hb,h.2.2.2.2.1.below hb,h.2.2.2.2.2.below hb⟩
def bF(q:Bool×Nat×Nat):Nat:=max (bl q.2.1) (bl q.2.2)
def aV.valid(t:aV):Bool:=
 decide (bF t.a.q≤256)&&(decide (bF t.b.q≤256)&&(decide (bF t.c.q≤256)&&(decide (bF t.d.q≤256)&&(decide (bF t.e.q≤256)&&decide (bF t.f.q≤256)))))
def aV.vU(t:aV):Bool×Nat×Nat:=tK (nK t.a.q t.d.q) (nK t.b.q t.c.q)
def q0:Bool×Nat×Nat:=(false,0,1)
def oC(p q:Bool×Nat×Nat):Bool:=kJ p q==0
def aV.eq(t u:aV):Bool:=oC t.a.q u.a.q&&(oC t.b.q u.b.q&&(oC t.c.q u.c.q&&(oC t.d.q u.d.q&&(oC t.e.q u.e.q&&oC t.f.q u.f.q))))
structure kE where
 x:Int
 y:Int
deriving DecidableEq
def kE.ok(p:kE):Prop:=I64 p.x∧I64 p.y
def cok(x:Int):Bool:=decide (-1048576≤x)&&decide (x≤1048576)
def kE.valid(p:kE):Bool:=cok p.x&&cok p.y
def kE.zero(p:kE):Bool:=(p.x==0)&&(p.y==0)
structure dW where
 verb:Int
 a:kE
 b:kE
 c:kE
deriving DecidableEq
def dW.cells(s:dW):List Value:=[.int .i64 s.verb,.int .i64 s.a.x,.int .i64 s.a.y,.int .i64 s.b.x,.int .i64 s.b.y,.int .i64 s.c.x,.int .i64 s.c.y]
def dW.ok(s:dW):Prop:=I64 s.verb∧s.a.ok∧s.b.ok∧s.c.ok
def named(v:Int):Int:=if v=4 then 3 else if v=3 then 2 else if v=1∨v=2 then 1 else if v=5 then 0 else -1
def kR(v:Int)(i:Int)(p:kE):Bool:=p.valid && !(decide (named v≤i) && !p.zero)
def dW.fits(s:dW):Bool:=kR s.verb 0 s.a&&(kR s.verb 1 s.b&&kR s.verb 2 s.c)
def dW.stands(last:Int)(s:dW):Bool:=(s.verb==1)||((last != 5)&&((s.verb != 5)||(last != 1)))
def dW.err(last:Int)(s:dW):Int:=if named s.verb<0 then 2 else if s.stands last=false then 10 else if s.fits=false then 6 else 0
def lS:Int→Int→List dW→Int×Int
 | _,_,[]=>(0,0)
 | last,i,s::l=>if s.err last=0 then lS s.verb (i+1) l else (s.err last,i)
def dF(l:List dW):Int×Int:=if 256<(l.length:Int)then (5,256)else lS 5 0 l
def iW(l:List dW):Bool:=(dF l).1==0
structure dI where
 r:UInt8
 g:UInt8
 b:UInt8
 a:UInt8
deriving DecidableEq
def dI.cells(p:dI):List Value:=[PO p.r,PO p.g,PO p.b,PO p.a]
def dI.valid(p:dI):Bool:=decide (p.r≤p.a)&&(decide (p.g≤p.a)&&decide (p.b≤p.a))
structure bU where
 w:Int
 h:Int
 sa:Option Addr
 sc:Nat
 l:List dI
def bU.s(m:bU):Value := .slice m.sa m.l.length m.sc
def bU.cells(m:bU):List Value:=[.int .i64 m.w,.int .i64 m.h,m.s]
def bU.v(m:bU):Value := .agg #[.int .i64 m.w,.int .i64 m.h,m.s]
def bU.ok(W:World)(m:bU):Prop:=I64 m.w∧I64 m.h∧aT 4 dI.cells W m.s m.l
theorem bU.ok.below{w w':World}{t:bU}(h:t.ok w)(hb:Ext w w'):t.ok w':=⟨h.1,h.2.1,h.2.2.below hb⟩
def side(n:Int):Bool:=decide (1≤n)&&decide (n≤4096)
def bU.size(m:bU):Bool:=side m.w&&(side m.h&&decide (m.w*m.h≤65536))
def bU.valid(m:bU):Bool:=m.size&&(((m.l.length:Int)==m.w*m.h)&&m.l.all dI.valid)
def bU.eq(m n:bU):Bool:=(m.w==n.w)&&((m.h==n.h)&&(m.l==n.l))
structure fK where
 o:Int
 c:dI
deriving DecidableEq
def fK.cells(s:fK):List Value:=[.int .i64 s.o,PO s.c.r,PO s.c.g,PO s.c.b,PO s.c.a]
def fK.ok(s:fK):Prop:=I64 s.o
def bZ:Int→List fK→Bool
 | _,[]=>true
 | at',s::l=>decide (at'≤s.o)&&(decide (s.o≤65536)&&bZ s.o l)
def dY(l:List fK):Bool:=decide (1≤l.length)&&(decide (l.length≤16)&&bZ 0 l)
structure ak where
 kind:Int
 color:dI
 p0:kE
 p1:kE
 bG:Int
 sva:Option Addr
 svc:Nat
 stops:List fK
 spread:Int
 img:bU
 cZ:Int
 t:aV
def ak.sv(p:ak):Value := .slice p.sva p.stops.length p.svc
def ak.cells(p:ak):List Value:=
 [.int .i64 p.kind,PO p.color.r,PO p.color.g,PO p.color.b,PO p.color.a,.int .i64 p.p0.x,.int .i64 p.p0.y,.int .i64 p.p1.x,.int .i64 p.p1.y,.int .i64 p.bG,p.sv,.int .i64 p.spread,
  .int .i64 p.img.w,.int .i64 p.img.h,p.img.s,.int .i64 p.cZ]++p.t.cells
def ak.v(p:ak):Value := .agg p.cells.toArray
def ak.ok(w:World)(p:ak):Prop:=
 I64 p.kind∧p.p0.ok∧p.p1.ok∧I64 p.bG∧aT 5 fK.cells w p.sv p.stops∧(∀s∈p.stops,s.ok)∧I64 p.spread∧p.img.ok w∧I64 p.cZ∧p.t.ok w
theorem ak.ok.below{w w':World}{p:ak}(h:p.ok w)(hb:Ext w w'):p.ok w':=by
 obtain⟨h1,h2,h3,h4,h5,h6,h7,h8,h9,h10⟩:=h
 exact⟨h1,h2,h3,h4,h5.below hb,h6,h7,h8.below hb,h9,h10.below hb⟩
def dI.zero(p:dI):Bool:=(p.r==0)&&((p.g==0)&&((p.b==0)&&(p.a==0)))
def iJ(n:Int):Bool:=decide (1≤n)&&decide (n≤3)
def bU.none(m:bU):Bool:=(m.w==0)&&((m.h==0)&&m.l.isEmpty)
structure aZ where
 width:Int
 join:Int
 cap:Int
 dU:Int
 sa:Option Addr
 sc:Nat
 dash:List Int
 phase:Int
def aZ.s(p:aZ):Value := .slice p.sa p.dash.length p.sc
def zf(x:Int):Value := .int .i64 x
def aZ.cells(p:aZ):List Value:=[.int .i64 p.width,.int .i64 p.join,.int .i64 p.cap,.int .i64 p.dU,p.s,.int .i64 p.phase]
def aZ.v(p:aZ):Value := .agg #[.int .i64 p.width,.int .i64 p.join,.int .i64 p.cap,.int .i64 p.dU,p.s,.int .i64 p.phase]
def aZ.ok(w:World)(p:aZ):Prop:=I64 p.width∧I64 p.join∧I64 p.cap∧I64 p.dU∧dO zf w p.s p.dash∧(∀x∈p.dash,I64 x)∧I64 p.phase
theorem aZ.ok.below{w w':World}{p:aZ}(h:p.ok w)(hb:Ext w w'):p.ok w':=⟨h.1,h.2.1,h.2.2.1,h.2.2.2.1,h.2.2.2.2.1.below hb,h.2.2.2.2.2⟩
structure aj where
 id:Int
 kind:Int
 depth:Int
 t:aV
 csa:Option Addr
 csc:Nat
 clip:List dW
 aO:Int
 eY:UInt8
 blend:Int
 isolated:Bool
 dN:Bool
 psa:Option Addr
 psc:Nat
 path:List dW
 aY:Int
 fsa:Option Addr
 fsc:Nat
 fill:List ak
 style:aZ
 ssa:Option Addr
 ssc:Nat
 stroke:List ak
 img:bU
 cZ:Int
def aj.cs(n:aj):Value := .slice n.csa n.clip.length n.csc
def aj.ps(n:aj):Value := .slice n.psa n.path.length n.psc
def aj.fs(n:aj):Value := .slice n.fsa n.fill.length n.fsc
def aj.ss(n:aj):Value := .slice n.ssa n.stroke.length n.ssc
def aj.cells(n:aj):List Value:=
 [.int .i64 n.id,.int .i64 n.kind,.int .i64 n.depth]++n.t.cells++[n.cs,.int .i64 n.aO,PO n.eY,.int .i64 n.blend,.bool n.isolated,.bool n.dN,n.ps,.int .i64 n.aY,n.fs]++n.style.cells ++
  [n.ss]++n.img.cells++[.int .i64 n.cZ]
def aj.v(n:aj):Value := .agg n.cells.toArray
abbrev nP (w:World)(v:Value)(l:List dW):Prop:=aT 7 dW.cells w v l∧∀s∈l,s.ok
abbrev iV (w:World)(v:Value)(l:List ak):Prop:=aT 40 ak.cells w v l∧∀p∈l,p.ok w
def aj.ok(w:World)(n:aj):Prop:=
 I64 n.id∧I64 n.kind∧I64 n.depth∧n.t.ok w∧nP w n.cs n.clip∧I64 n.aO∧I64 n.blend∧nP w n.ps n.path∧I64 n.aY∧iV w n.fs n.fill∧n.style.ok w∧iV w n.ss n.stroke ∧
  n.img.ok w∧I64 n.cZ
theorem nP.below{w w':World}{v:Value}{l:List dW}(h:nP w v l)(hb:Ext w w'):nP w' v l:=⟨h.1.below hb,h.2⟩
theorem iV.below{w w':World}{v:Value}{l:List ak}(h:iV w v l)(hb:Ext w w'):iV w' v l:=⟨h.1.below hb,fun p hp=>(h.2 p hp).below hb⟩
theorem aj.ok.below{w w':World}{n:aj}(h:n.ok w)(hb:Ext w w'):n.ok w':=by
 obtain⟨h1,h2,h3,h4,h5,h6,h7,h8,h9,h10,h11,h12,h13,SY⟩:=h
 exact⟨h1,h2,h3,h4.below hb,h5.below hb,h6,h7,h8.below hb,h9,h10.below hb,h11.below hb,h12.below hb,h13.below hb,SY⟩
end Go.Proofs.YtfmkkemfhjkajaaGreatDoor
