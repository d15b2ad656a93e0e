/- Plain laws of signed numbers and of rational numbers by -/
import Derived.Test.YtapmgonflgahbaaGreatDoorRat
import Derived.Deep.MidRow
import Derived.Test.YtapmgonflgahbaaGreatDoorPk5
set_option linter.unusedVariables false
section
namespace Go.Proofs.YtapmgonflgahbaaGreatDoor
open Go.RowKit
variable{α:Type}
def zv(n:Bool)(a:Nat):Int:=if n then -(a:Int)else (a:Int)
theorem Tv(n:Bool)(a:Nat):decide (zv n a<0)=(n&&decide (0<a)):=by
 unfold zv;cases n
 ·simp
 rw[apz,decide_eq_decide]; simp
theorem kZ(n:Bool)(a:Nat):(zv n a).natAbs=a:=by unfold zv; cases n<;>simp
theorem QO(n:Bool)(a:Nat):zv (!n) a = -zv n a:=by unfold zv; cases n<;>simp
theorem Ky(z:Int):zv (decide (z<0)) z.natAbs=z:=by
 unfold zv;by_cases h:z<0
 ·rw[aoX h,an6 rfl]; omega
 rw[apa h,an0 (by simp)]; omega
theorem YV(n m:Bool)(a b:Nat):zv n a*zv m b=zv (n != m) (a*b):=by unfold zv; cases n<;>cases m<;>simp[Int.mul_neg,Int.neg_mul,Int.neg_neg]
theorem DC(n:Bool)(a b:Nat):zv n a+zv n b=zv n (a+b):=by
 unfold zv;cases n
 ·simp
 simp only[if_true]; omega
theorem wO{n m:Bool}{a b:Nat}(h:n≠m)(hle:b≤a):zv n a+zv m b=zv n (a-b):=by
 unfold zv;cases n<;>cases m<;>simp only[ne_eq,not_true_eq_false,reduceCtorEq,if_true,if_false,apW]at * <;> omega
theorem AO{n m:Bool}{a b:Nat}(h:n≠m)(hle:a≤b):zv n a+zv m b=zv m (b-a):=by
 rw[Int.add_comm]; exact wO (fun e=>h e.symm) hle
theorem YT(n:Bool)(a:Nat):sW n a=(zv n a).sign:=by
 unfold sW zv;rcases aoJ a with h | h
 ·subst h; cases n<;>rfl
 rw[an0 (by omega)];cases n
 ·rw[an0 (by simp),an0 (by simp),Int.sign_eq_one_of_pos (by omega)]
 rw[an6 rfl,an6 rfl,Int.sign_eq_neg_one_of_neg (by omega)]
abbrev oV (base:Nat)(w:World)(v:Value)(z:Int):Prop:=aH base w v (decide (z<0)) z.natAbs
theorem uj{base:Nat}{w:World}{v:Value}{n:Bool}{a:Nat}(h:aH base w v (n&&decide (0<a)) a):oV base w v (zv n a):=by
 unfold oV; rw[Tv,kZ]; exact h
def nz(x:Int)(d:Nat):Bool×Nat×Nat:=nrm (decide (x<0)) false x.natAbs d
def qz(r:Bool×Nat×Nat):Int:=zv r.1 r.2.1
def pJ(r s:Bool×Nat×Nat):Bool×Nat×Nat:=nz (qz r*qz s) (r.2.2*s.2.2)
def IZ(r s:Bool×Nat×Nat):Bool×Nat×Nat:=nz (qz r*s.2.2+qz s*r.2.2) (r.2.2*s.2.2)
def uK(r s:Bool×Nat×Nat):Bool×Nat×Nat:=nz (qz r*s.2.2-qz s*r.2.2) (r.2.2*s.2.2)
def lD(r s:Bool×Nat×Nat):Int:=(qz r*s.2.2-qz s*r.2.2).sign
def uV(r:Bool×Nat×Nat):Bool×Nat×Nat:=(!r.1&&decide (0<r.2.1),r.2)
theorem afL(r:Bool×Nat×Nat):qz (uV r) = -qz r:=by
 obtain⟨n,a,b⟩:=r;unfold qz uV zv;cases n
 ·simp only[Bool.not_false,apz,aov,apW,if_false];split<;>omega
 simp
theorem LX(n1 n2:Bool)(l m:List UInt32):(Na.aj (nrm n1 n2 (Na.val l) (Na.val m)).2.1).length≤l.length∧(Na.aj (nrm n1 n2 (Na.val l) (Na.val m)).2.2).length≤max 1 m.length:=by
 unfold nrm;split
 ·have h1:(Na.aj 1).length≤1:=Na.dD (by decide);exact⟨by rw[Na.rH]; simp,by simp only; omega⟩
 have h1:=fQ (apQ (Na.val l) (Nat.gcd (Na.val l) (Na.val m)));have h2:=fQ (apQ (Na.val m) (Nat.gcd (Na.val l) (Na.val m)));have:=bK l;have:=bK m;simp only; omega
end Go.Proofs.YtapmgonflgahbaaGreatDoor
namespace Go.Proofs.YtapmgonflgahbaaGreatDoor
open Go.RowKit
variable{α:Type}
def aV(k:Nat)(f:α→List Value)(w:World)(v:Value)(l:List α):Prop:=
 ∃a cap,v = .slice a l.length cap∧cap≤maxLen ∧
  ((l=[]∧(a=none→cap=0)) ∨
   ∃b o,a=some ⟨b,o,none⟩∧b<w.heap.size∧l.length≤cap∧∀i (h:i<l.length) (j:Nat),j<k→w.cell? ⟨b,o+i*k+j,none⟩=(f l[i])[j]?)
theorem aV.below{k:Nat}{f:α→List Value}{w w':World}{v:Value}{l:List α}(h:aV k f w v l)(hb:Below w.heap.size w w'):aV k f w' v l:=by
 obtain⟨a,cap,hv,hm,h⟩:=h;refine⟨a,cap,hv,hm,?_⟩;rcases h with h | ⟨b,o,ha,hlt,hl,hc⟩
 ·exact .inl h
 exact .inr ⟨b,o,ha,by have:=hb.size; omega,hl,fun i hi j hj=>by rw[hb.cell (p:=⟨b,o+i*k+j,none⟩) hlt]; exact hc i hi j hj⟩
theorem aV.shape{k:Nat}{f:α→List Value}{w:World}{v:Value}{l:List α}(h:aV k f w v l):∃a cap,v = .slice a l.length cap:=by
 obtain⟨a,cap,h,_⟩:=h; exact⟨a,cap,h⟩
theorem aV.len{k:Nat}{f:α→List Value}{w:World}{v:Value}{l:List α}(h:aV k f w v l):l.length≤maxLen:=by
 obtain⟨a,cap,rfl,hm,h⟩:=h;rcases h with ⟨rfl,_⟩ | ⟨b,o,rfl,hb,hl,hc⟩
 ·simp
 omega
theorem jD(k:Nat)(f:α→List Value)(w:World):aV k f w (.sn) []:=⟨none,0,rfl,aoa _,.inl ⟨rfl,fun _=>rfl⟩⟩
theorem XI{k:Nat}{f:α→List Value}{w:World}{v:Value}{l:List α}(h:aV k f w v l)(hp:0<l.length) :
  ∃b o cap,v = .slice (some ⟨b,o,none⟩) l.length cap∧b<w.heap.size∧l.length≤cap∧cap≤maxLen∧∀i (h:i<l.length) (j:Nat),j<k→w.cell? ⟨b,o+i*k+j,none⟩=(f l[i])[j]?:=by
 obtain⟨a,cap,rfl,hm,h⟩:=h;rcases h with ⟨rfl,_⟩ | ⟨b,o,rfl,hb,hl,hc⟩
 ·simp at hp
 exact⟨b,o,cap,rfl,hb,hl,hm,hc⟩
theorem mJ{f:α→Value}{w:World}{v:Value}{l:List α}(h:dS f w v l):aV 1 (fun x=>[f x]) w v l:=by
 obtain⟨a,cap,hv,hm,h⟩:=h;refine⟨a,cap,hv,hm,?_⟩;rcases h with h | ⟨b,o,ha,hlt,hl,hc⟩
 ·exact .inl h
 refine .inr ⟨b,o,ha,hlt,hl,fun i hi j hj=>?_⟩;obtain rfl:j=0:=by omega
 simpa using hc i hi
abbrev I64 (x:Int):Prop := -9223372036854775808≤x∧x≤9223372036854775807
structure dH where
 n1:Bool
 a1:Option Addr
 c1:Nat
 l1:List UInt32
 n2:Bool
 a2:Option Addr
 c2:Nat
 l2:List UInt32
def dH.s1(r:dH):Value := .slice r.a1 r.l1.length r.c1
def dH.s2(r:dH):Value := .slice r.a2 r.l2.length r.c2
def dH.cells(r:dH):List Value:=[.bool r.n1,r.s1,.bool r.n2,r.s2]
def dH.v(r:dH):Value := .agg #[.bool r.n1,r.s1,.bool r.n2,r.s2]
def dH.ok(w:World)(r:dH):Prop:=aF w r.s1 r.l1∧aF w r.s2 r.l2
def dH.fit(k:Nat)(r:dH):Prop:=r.l1.length≤k∧r.l2.length≤k
def dH.q(r:dH):Bool×Nat×Nat:=nrm r.n1 r.n2 (Na.val r.l1) (Na.val r.l2)
theorem dH.ok.below{w w':World}{r:dH}(h:r.ok w)(hb:Ext w w'):r.ok w':=⟨h.1.below hb,h.2.below hb⟩
theorem dH.fit.mono{k k':Nat}{r:dH}(h:r.fit k)(hk:k≤k'):r.fit k':=⟨aoE h.1 hk,aoE h.2 hk⟩
structure bD where
 a:dH
 b:dH
 c:dH
 d:dH
 e:dH
 f:dH
def bD.cells(t:bD):List Value:=t.a.cells++t.b.cells++t.c.cells++t.d.cells++t.e.cells++t.f.cells
def bD.v(t:bD):Value := .agg t.cells.toArray
def bD.ok(w:World)(t:bD):Prop:=t.a.ok w∧t.b.ok w∧t.c.ok w∧t.d.ok w∧t.e.ok w∧t.f.ok w
def bD.fit(k:Nat)(t:bD):Prop:=t.a.fit k∧t.b.fit k∧t.c.fit k∧t.d.fit k∧t.e.fit k∧t.f.fit k
theorem bD.ok.below{w w':World}{t:bD}(h:t.ok w)(hb:Ext w w'):t.ok w':=
 ⟨h.1.below hb,h.2.1.below hb,h.2.2.1.below hb,h.2.2.2.1.below hb,h.2.2.2.2.1.below hb,h.2.2.2.2.2.below hb⟩
def bW(q:Bool×Nat×Nat):Nat:=max (bl q.2.1) (bl q.2.2)
def q0:Bool×Nat×Nat:=(false,0,1)
def qQ(p q:Bool×Nat×Nat):Bool:=lD p q==0
structure kU where
 x:Int
 y:Int
deriving DecidableEq
def kU.ok(p:kU):Prop:=I64 p.x∧I64 p.y
def cok(x:Int):Bool:=decide (-1048576≤x)&&decide (x≤1048576)
def kU.valid(p:kU):Bool:=cok p.x&&cok p.y
def kU.zero(p:kU):Bool:=(p.x==0)&&(p.y==0)
structure eU where
 verb:Int
 a:kU
 b:kU
 c:kU
deriving DecidableEq
def eU.cells(s:eU):List Value:=[.i s.verb,.i s.a.x,.i s.a.y,.i s.b.x,.i s.b.y,.i s.c.x,.i s.c.y]
def eU.ok(s:eU):Prop:=I64 s.verb∧s.a.ok∧s.b.ok∧s.c.ok
def named(v:Int):Int:=if v=4 then 3 else if v=3 then 2 else if v=1∨v=2 then 1 else if v=5 then 0 else -1
def lF(v:Int)(i:Int)(p:kU):Bool:=p.valid && !(decide (named v≤i) && !p.zero)
def eU.fits(s:eU):Bool:=lF s.verb 0 s.a&&(lF s.verb 1 s.b&&lF s.verb 2 s.c)
def eU.stands(last:Int)(s:eU):Bool:=(s.verb==1)||((last != 5)&&((s.verb != 5)||(last != 1)))
def eU.err(last:Int)(s:eU):Int:=if named s.verb<0 then 2 else if s.stands last=false then 10 else if s.fits=false then 6 else 0
def mX:Int→Int→List eU→Int×Int
 | _,_,[]=>(0,0)
 | last,i,s::l=>if s.err last=0 then mX s.verb (i+1) l else (s.err last,i)
def dO(l:List eU):Int×Int:=if 256<(l.length:Int)then (5,256)else mX 5 0 l
def iY(l:List eU):Bool:=(dO l).1==0
structure bT where
 r:UInt8
 g:UInt8
 b:UInt8
 a:UInt8
deriving DecidableEq
def bT.cells(p:bT):List Value:=[dY p.r,dY p.g,dY p.b,dY p.a]
def bT.valid(p:bT):Bool:=decide (p.r≤p.a)&&(decide (p.g≤p.a)&&decide (p.b≤p.a))
structure dB where
 w:Int
 h:Int
 sa:Option Addr
 sc:Nat
 l:List bT
def dB.s(m:dB):Value := .slice m.sa m.l.length m.sc
def dB.cells(m:dB):List Value:=[.i m.w,.i m.h,m.s]
def dB.v(m:dB):Value := .agg #[.i m.w,.i m.h,m.s]
def dB.ok(W:World)(m:dB):Prop:=I64 m.w∧I64 m.h∧aV 4 bT.cells W m.s m.l
theorem dB.ok.below{w w':World}{t:dB}(h:t.ok w)(hb:Ext w w'):t.ok w':=⟨h.1,h.2.1,h.2.2.below hb⟩
def side(n:Int):Bool:=decide (1≤n)&&decide (n≤4096)
def dB.size(m:dB):Bool:=side m.w&&(side m.h&&decide (m.w*m.h≤65536))
def dB.valid(m:dB):Bool:=m.size&&(((m.l.length:Int)==m.w*m.h)&&m.l.all bT.valid)
def dB.eq(m n:dB):Bool:=(m.w==n.w)&&((m.h==n.h)&&(m.l==n.l))
structure fH where
 o:Int
 c:bT
deriving DecidableEq
def fH.cells(s:fH):List Value:=[.i s.o,dY s.c.r,dY s.c.g,dY s.c.b,dY s.c.a]
def fH.ok(s:fH):Prop:=I64 s.o
def dG:Int→List fH→Bool
 | _,[]=>true
 | at',s::l=>decide (at'≤s.o)&&(decide (s.o≤65536)&&dG s.o l)
def fA(l:List fH):Bool:=decide (1≤l.length)&&(decide (l.length≤16)&&dG 0 l)
structure ak where
 kind:Int
 color:bT
 p0:kU
 p1:kU
 bn:Int
 sva:Option Addr
 svc:Nat
 stops:List fH
 spread:Int
 img:dB
 bY:Int
 t:bD
def ak.sv(p:ak):Value := .slice p.sva p.stops.length p.svc
def ak.cells(p:ak):List Value:=
 [.i p.kind,dY p.color.r,dY p.color.g,dY p.color.b,dY p.color.a,.i p.p0.x,.i p.p0.y,.i p.p1.x,.i p.p1.y,.i p.bn,p.sv,.i p.spread,
  .i p.img.w,.i p.img.h,p.img.s,.i p.bY]++p.t.cells
def ak.v(p:ak):Value := .agg p.cells.toArray
def ak.ok(w:World)(p:ak):Prop:=
 I64 p.kind∧p.p0.ok∧p.p1.ok∧I64 p.bn∧aV 5 fH.cells w p.sv p.stops∧(∀s∈p.stops,s.ok)∧I64 p.spread∧p.img.ok w∧I64 p.bY∧p.t.ok w
theorem ak.ok.below{w w':World}{p:ak}(h:p.ok w)(hb:Ext w w'):p.ok w':=by
 obtain⟨h1,h2,h3,h4,h5,h6,h7,h8,h9,h10⟩:=h;exact⟨h1,h2,h3,h4,h5.below hb,h6,h7,h8.below hb,h9,h10.below hb⟩
def jc(n:Int):Bool:=decide (1≤n)&&decide (n≤3)
structure bC where
 width:Int
 join:Int
 cap:Int
 dZ:Int
 sa:Option Addr
 sc:Nat
 dash:List Int
 phase:Int
def bC.s(p:bC):Value := .slice p.sa p.dash.length p.sc
def JW(x:Int):Value := .i x
def bC.cells(p:bC):List Value:=[.i p.width,.i p.join,.i p.cap,.i p.dZ,p.s,.i p.phase]
def bC.v(p:bC):Value := .agg #[.i p.width,.i p.join,.i p.cap,.i p.dZ,p.s,.i p.phase]
def bC.ok(w:World)(p:bC):Prop:=I64 p.width∧I64 p.join∧I64 p.cap∧I64 p.dZ∧dS JW w p.s p.dash∧(∀x∈p.dash,I64 x)∧I64 p.phase
theorem bC.ok.below{w w':World}{p:bC}(h:p.ok w)(hb:Ext w w'):p.ok w':=⟨h.1,h.2.1,h.2.2.1,h.2.2.2.1,h.2.2.2.2.1.below hb,h.2.2.2.2.2⟩
structure aA where
 id:Int
 kind:Int
 depth:Int
 t:bD
 csa:Option Addr
 csc:Nat
 clip:List eU
 aO:Int
 eY:UInt8
 blend:Int
 isolated:Bool
 dL:Bool
 psa:Option Addr
 psc:Nat
 path:List eU
 aW:Int
 fsa:Option Addr
 fsc:Nat
 fill:List ak
 style:bC
 ssa:Option Addr
 ssc:Nat
 stroke:List ak
 img:dB
 bY:Int
def aA.cs(n:aA):Value := .slice n.csa n.clip.length n.csc
def aA.ps(n:aA):Value := .slice n.psa n.path.length n.psc
def aA.fs(n:aA):Value := .slice n.fsa n.fill.length n.fsc
def aA.ss(n:aA):Value := .slice n.ssa n.stroke.length n.ssc
def aA.cells(n:aA):List Value:=
 [.i n.id,.i n.kind,.i n.depth]++n.t.cells++[n.cs,.i n.aO,dY n.eY,.i n.blend,.bool n.isolated,.bool n.dL,n.ps,.i n.aW,n.fs]++n.style.cells ++
  [n.ss]++n.img.cells++[.i n.bY]
def aA.v(n:aA):Value := .agg n.cells.toArray
abbrev oI (w:World)(v:Value)(l:List eU):Prop:=aV 7 eU.cells w v l∧∀s∈l,s.ok
abbrev jM (w:World)(v:Value)(l:List ak):Prop:=aV 40 ak.cells w v l∧∀p∈l,p.ok w
def aA.ok(w:World)(n:aA):Prop:=
 I64 n.id∧I64 n.kind∧I64 n.depth∧n.t.ok w∧oI w n.cs n.clip∧I64 n.aO∧I64 n.blend∧oI w n.ps n.path∧I64 n.aW∧jM w n.fs n.fill∧n.style.ok w∧jM w n.ss n.stroke ∧
  n.img.ok w∧I64 n.bY
theorem oI.below{w w':World}{v:Value}{l:List eU}(h:oI w v l)(hb:Ext w w'):oI w' v l:=⟨h.1.below hb,h.2⟩
theorem jM.below{w w':World}{v:Value}{l:List ak}(h:jM w v l)(hb:Ext w w'):jM w' v l:=⟨h.1.below hb,fun p hp=>(h.2 p hp).below hb⟩
theorem aA.ok.below{w w':World}{n:aA}(h:n.ok w)(hb:Ext w w'):n.ok w':=by
 obtain⟨h1,h2,h3,h4,h5,h6,h7,h8,h9,h10,h11,h12,h13,UY⟩:=h;exact⟨h1,h2,h3,h4.below hb,h5.below hb,h6,h7,h8.below hb,h9,h10.below hb,h11.below hb,h12.below hb,h13.below hb,UY⟩
end Go.Proofs.YtapmgonflgahbaaGreatDoor
end
section
namespace Go.Rel
variable{P:Program}{o:Oper}{ρ:Operand→Value}{w:World}
theorem P8{u:Value}{R:World→World→Prop}{T:Fact}(h:(execOp ρ o).run P w = .ok (.value u) w)(hR:R w w)(hT:T (kept o u) w):Does P o ρ w (fun v w'=>R w w'∧T (kept o v) w'):=by
 unfold Does; rw[h]; exact⟨hR,hT⟩
theorem acP{u:Value}{w1:World}{R:World→World→Prop}{T:Fact}(h:(execOp ρ o).run P w = .ok (.value u) w1)(hR:R w w1)(hT:T (kept o u) w1):Does P o ρ w (fun v w'=>R w w'∧T (kept o v) w'):=by
 unfold Does; rw[h]; exact⟨hR,hT⟩
theorem Df{f:Nat}{args:Array Value}{K:Value→World→Prop}(h:(execOp ρ o).run P w = .ok (.enter f args) w)(hc:Calls P f args w (fun e w'=>∃v,e = .returned v∧K v w')):Does P o ρ w K:=by
 unfold Does; rw[h]; exact hc
end Go.Rel
namespace Go.Proofs.YtapmgonflgahbaaGreatDoor
open Go.RowKit
end Go.Proofs.YtapmgonflgahbaaGreatDoor
namespace Go.Proofs.YtapmgonflgahbaaGreatDoor
open Go.RowKit
variable{α:Type}
def Bx(w:World)(b:Nat)(A:Array Value):Prop:=b<w.heap.size∧(∀i,w.cell? ⟨b,i,none⟩=A[i]?)∧(∀i,w.frozen? ⟨b,i,none⟩=false)
theorem Bx.ext{w w':World}{b:Nat}{A:Array Value}(h:Bx w b A)(hb:Ext w w'):Bx w' b A:=
 ⟨by have:=hb.size; have:=h.1; omega,fun i=>(hb.cell (p:=⟨b,i,none⟩) h.1).trans (h.2.1 i),fun i=>(hb.frozen (p:=⟨b,i,none⟩) h.1).trans (h.2.2 i)⟩
theorem Ld(w:World)(A:Array Value)(t:TypeId):Bx (w.alloc (.cells A t)) w.heap.size A:=⟨by simp,fun i=>by simp[go_sem],fun i=>by simp[go_sem]⟩
theorem Bx.ch{w w':World}{b c:Nat}{A:Array Value}(h:Bx w b A)(hc:Ch c w w')(hne:b≠c):Bx w' b A:=
 ⟨by have:=hc.size; have:=h.1; omega,fun i=>(hc.cell (p:=⟨b,i,none⟩) h.1 hne).trans (h.2.1 i),fun i=>(hc.frozen (p:=⟨b,i,none⟩) h.1 hne).trans (h.2.2 i)⟩
theorem Ch.setCells{b:Nat}{w w':World}(h:Ch b w w'):∀(vs:List Value) (o:Nat),Ch b w (w'.setCells b o vs)
 | [],_=>h
 | v::vs,o=>Ch.setCells (h.setCell o v) vs (o+1)
theorem rC{W w:World}(h:Ext W w){c:Nat}(hc:W.heap.size≤c)(vs:List Value)(o:Nat):Ext W (w.setCells c o vs):=
 (Ch.setCells (Ch.jG h) vs o).below hc (an7 _)
theorem Bx.there{w:World}{b n:Nat}{A:Array Value}(h:Bx w b A)(hn:A.size=n):w.there b 0 n:=fun j hj=>by
 rw[aoY,h.2.1,h.2.2,Array.getElem?_eq_getElem (by omega)]; exact⟨rfl,rfl⟩
theorem size_setCells(b:Nat):∀(vs:List Value) (o:Nat) (w:World),(w.setCells b o vs).heap.size=w.heap.size
 | [],_,_=>rfl
 | v::vs,o,w=>by
  show((w.setCell ⟨b,o,none⟩ v).setCells b (o+1) vs).heap.size=_
  rw[size_setCells b vs (o+1)]; simp
theorem lJ(b:Nat)(vs:List Value)(o:Nat)(w:World)(j:Nat)(h:j<o∨o+vs.length≤j):(w.setCells b o vs).cell? ⟨b,j,none⟩=w.cell? ⟨b,j,none⟩:=
 World.cell?_setCells_out b vs o w ⟨b,j,none⟩ (fun _ _=>h)
theorem qO(b:Nat):∀(vs:List Value) (o:Nat) (w:World) (p:Addr),(w.setCells b o vs).frozen? p=w.frozen? p
 | [],_,_,_=>rfl
 | v::vs,o,w,p=>by
  show((w.setCell ⟨b,o,none⟩ v).setCells b (o+1) vs).frozen? _=_
  rw[qO b vs (o+1)]; simp[go_sem]
theorem Bx.set{w:World}{b:Nat}{A:Array Value}(h:Bx w b A)(vs:List Value)(hn:A.size=vs.length):Bx (w.setCells b 0 vs) b vs.toArray:=by
 refine⟨by rw[size_setCells]; exact h.1,fun i=>?_,fun i=>by rw[qO]; exact h.2.2 i⟩;by_cases hi:i<vs.length
 ·have:=World.rangeAt_setCells_same w b 0 vs (h.there hn) i vs[i] (by simp[hi]);rw[aoY]at this;rw[this]; simp[hi]
 rw[lJ b vs 0 w i (.inr (by omega)),h.2.1,Array.getElem?_eq_none (by omega),Array.getElem?_eq_none (by simp; omega)]
theorem Bx.range{w:World}{b:Nat}{A:Array Value}(h:Bx w b A)(o n:Nat){cs:List Value}(hcs:(A.toList.drop o).take n=cs):w.rangeAt b o cs:=fun j v hv=>by
 subst hcs;rw[h.2.1];rw[List.getElem?_take]at hv;split at hv
 ·rw[List.getElem?_drop]at hv; simpa using hv
 cases hv
theorem Bx.off{f:α→Value}{w:World}{b:Nat}{A:Array Value}(h:Bx w b A)(hA:∀(i:Nat) (x:α),A[i]?≠some (f x)){s:Value}{l:List α}(hs:dS f w s l):0<l.length→Off b s:=by
 intro h0 ad n cap e;obtain⟨b',o,c,hv,hb,_,_,hc⟩:=dK hs rfl h0;rw[hv]at e;simp only[aoB,an8]at e;obtain⟨rfl,-,-⟩:=e;intro hbg;simp only at hbg;subst hbg;have h1:=hc 0 h0;rw[h.2.1]at h1;exact hA _ _ h1
end Go.Proofs.YtapmgonflgahbaaGreatDoor
namespace Go.Rel
open Go.Proofs.YtapmgonflgahbaaGreatDoor
variable{P:Program}{o:Oper}{ρ:Operand→Value}{w:World}
end Go.Rel
end
namespace Go.Proofs.YtapmgonflgahbaaGreatDoor
section
open Go.RowKit
variable{α:Type}
attribute [local go_sem] Go.Rel.valOf
theorem aH.shape{base:Nat}{w:World}{v:Value}{neg:Bool}{n:Nat}(h:aH base w v neg n):∃a d,v = .agg #[.bool neg,.slice a (Na.aj n).length d]:=by
 obtain⟨s,rfl,hs,_⟩:=h;obtain⟨a,d,rfl⟩:=hs.shape;exact⟨a,d,rfl⟩
def gy(K:Nat)(w:World)(v:Value)(z:Int):Prop:=∃n s l,v = .agg #[.bool n,s]∧aF w s l∧l.length≤K∧zv n (Na.val l)=z
theorem gy.mono{K K':Nat}{w:World}{v:Value}{z:Int}(h:gy K w v z)(hk:K≤K'):gy K' w v z:=by
 obtain⟨n,s,l,hv,hs,hl,hz⟩:=h; exact⟨n,s,l,hv,hs,by omega,hz⟩
theorem oV.toQ{base K:Nat}{w:World}{v:Value}{z:Int}(h:oV base w v z)(hk:(Na.aj z.natAbs).length≤K):gy K w v z:=by
 obtain⟨s,hv,hs,_⟩:=h; exact⟨_,s,_,hv,hs,hk,by rw[Na.aJ,Ky]⟩
theorem FV{K:Nat}{w:World}{v:Value}{z:Int}(h:gy K w v z):(Na.aj z.natAbs).length≤K:=by
 obtain⟨n,s,l,hv,hs,hl,rfl⟩:=h;rw[kZ]; exact aoE (bK l) hl
theorem gK(x y:Int){K L:Nat}(hx:(Na.aj x.natAbs).length≤K)(hy:(Na.aj y.natAbs).length≤L):(Na.aj (x*y).natAbs).length≤K+L:=by
 apply Na.dD;have h1:=Na.fB (Na.aj x.natAbs);have h2:=Na.fB (Na.aj y.natAbs);rw[Na.aJ]at h1 h2;have h3:Na.B^(Na.aj x.natAbs).length≤Na.B^K:=ao0 (by decide) hx;have h4:Na.B^(Na.aj y.natAbs).length≤Na.B^L:=ao0 (by decide) hy;rw[Int.natAbs_mul,apV];exact Nat.mul_lt_mul_of_lt_of_lt (aoC h1 h3) (aoC h2 h4)
theorem Kv(x y:Int){K:Nat}(hx:(Na.aj x.natAbs).length≤K)(hy:(Na.aj y.natAbs).length≤K):(Na.aj (x+y).natAbs).length≤K+1:=by
 apply Na.dD;have h1:=Na.fB (Na.aj x.natAbs);have h2:=Na.fB (Na.aj y.natAbs);rw[Na.aJ]at h1 h2;have h3:Na.B^(Na.aj x.natAbs).length≤Na.B^K:=ao0 (by decide) hx;have h4:Na.B^(Na.aj y.natAbs).length≤Na.B^K:=ao0 (by decide) hy;have h6:Na.B^K*2≤Na.B^K*Na.B:=aoK _ (by decide);have h7:=Int.natAbs_add_le x y;rw[aoF];generalize Na.B^K*Na.B=q at *;generalize Na.B^K=p at *;omega
theorem EC(x y:Int){K:Nat}(hx:(Na.aj x.natAbs).length≤K)(hy:(Na.aj y.natAbs).length≤K):(Na.aj (x-y).natAbs).length≤K+1:=by
 rw[Int.sub_eq_add_neg]; exact Kv x (-y) hx (by rw[Int.natAbs_neg]; exact hy)
end
section
open Go.RowKit
variable{α:Type}
theorem Zv(n:Bool)(a d:Nat):nrm n false a d=nz (zv n a) d:=by
 unfold nz;rw[kZ,Tv];unfold nrm;split
 ·rfl
 congr 1;unfold nP;rcases aoJ a with h | h
 ·subst h; simp[sW]
 rw[aoX h,Bool.and_true]
abbrev IB (q:Bool×Nat×Nat):Prop:=nrm q.1 false q.2.1 q.2.2=q
theorem P9(n1 n2:Bool)(a b:Nat):IB (nrm n1 n2 a b):=by
 unfold IB;rcases aoJ b with hb | hb
 ·have e:nrm n1 n2 a b=(false,0,1):=by unfold nrm; rw[an6 hb]
  rw[e]; decide
 have hg:0<Nat.gcd a b:=aqn a hb;have hb':0<b/Nat.gcd a b:=Nat.div_pos (Nat.le_of_dvd hb (aqh a b)) hg;have hc:Nat.gcd (a/Nat.gcd a b) (b/Nat.gcd a b)=1:=Nat.coprime_div_gcd_div_gcd hg;have e:nrm n1 n2 a b=(nP n1 n2 a b,a/Nat.gcd a b,b/Nat.gcd a b):=by unfold nrm; rw[an0 (by omega)]
 rw[e];have hneg:nP n1 n2 a b=true→0<a/Nat.gcd a b:=by
  unfold nP; rw[aoq]; intro h; simpa using h.2
 generalize nP n1 n2 a b=n at *;generalize a/Nat.gcd a b=x at *;generalize b/Nat.gcd a b=y at *;unfold nrm;rw[an0 (by simp only; omega)];simp only[hc,Nat.div_one];congr 1;unfold nP;rcases aoJ x with h | h
 ·subst h;have:n=false:=by
   cases n
   ·rfl
   exact absurd (hneg rfl) (by omega)
  subst this; simp[sW]
 rw[hc,Nat.div_one,aoX h,Bool.and_true];unfold sW;have hx:x≠0:=by omega
 have hy:y≠0:=by omega
 rw[an0 hx,an0 hy];cases n<;>decide
theorem FH(z:Int)(d:Nat):IB (nz z d):=P9 _ _ _ _
theorem acQ(n1 n2:Bool)(a b:Nat):0<(nrm n1 n2 a b).2.2:=by
 unfold nrm;split
 ·exact Nat.one_pos
 exact Nat.div_pos (Nat.le_of_dvd (by omega) (aqh a b)) (aqn a (by omega))
def qlen(K:Nat)(q:Bool×Nat×Nat):Prop:=(Na.aj q.2.1).length≤K∧(Na.aj q.2.2).length≤K
theorem aaY:(Na.aj 1).length≤1:=Na.dD (by decide)
theorem aaZ{K:Nat}(z:Int)(d:Nat)(hK:1≤K)(h1:(Na.aj z.natAbs).length≤K)(h2:(Na.aj d).length≤K):qlen K (nz z d):=by
 unfold nz nrm;split
 ·exact⟨by rw[Na.rH]; simp,aoE aaY hK⟩
 exact⟨aoE (fQ (apQ _ _)) h1,aoE (fQ (apQ _ _)) h2⟩
theorem jS{K:Nat}{q:Bool×Nat×Nat}(h:qlen K q):(Na.aj (qz q).natAbs).length≤K:=by unfold qz; rw[kZ]; exact h.1
theorem fV{n K:Nat}(h:(Na.aj n).length≤K):(Na.aj (n:Int).natAbs).length≤K:=by rw[apu]; exact h
theorem uI{K L:Nat}{p q:Bool×Nat×Nat}(hK:1≤K)(h1:qlen K p)(h2:qlen L q):qlen (K+L) (pJ p q):=by
 refine aaZ _ _ (by omega) (gK _ _ (jS h1) (jS h2)) ?_;have:=gK p.2.2 q.2.2 (fV h1.2) (fV h2.2);rwa [show((p.2.2:Int)*(q.2.2:Int))=((p.2.2*q.2.2:Nat):Int) by simp,apu]at this
theorem Zo{K L:Nat}{p q:Bool×Nat×Nat}(hK:1≤K)(h1:qlen K p)(h2:qlen L q):qlen (K+L+1) (uK p q):=by
 refine aaZ _ _ (by omega) (EC _ _ (gK _ _ (jS h1) (fV h2.2)) (by rw[apB]; exact gK _ _ (jS h2) (fV h1.2))) ?_;have:=gK p.2.2 q.2.2 (fV h1.2) (fV h2.2);rw[show((p.2.2:Int)*(q.2.2:Int))=((p.2.2*q.2.2:Nat):Int) by simp,apu]at this;omega
theorem aa0(p q:Bool×Nat×Nat):IZ p (uV q)=uK p q:=by
 unfold IZ uK;rw[afL,show(uV q).2.2=q.2.2 from rfl,Int.sub_eq_add_neg,Int.neg_mul]
theorem aa1{q:Bool×Nat×Nat}(h:IB q)(hp:0<q.2.2):IB (uV q):=by
 obtain⟨n,a,b⟩:=q;unfold IB uV at *;simp only at *;unfold nrm at *;rw[an0 (by omega)]at h ⊢;simp only[aob]at h ⊢;refine⟨?_,h.2⟩;have e1:=h.2.1;unfold nP;rw[e1];rcases aoJ a with h0 | h0
 ·subst h0; simp
 have hb:b≠0:=by omega
 rw[aoX h0,Bool.and_true,Bool.and_true];unfold sW;rw[an0 (by omega),an0 hb];cases n<;>decide
def dQ(K:Nat)(w:World)(v:Value)(q:Bool×Nat×Nat):Prop:=
 ∃n1 s1 l1 n2 s2 l2,v = .agg #[.bool n1,s1,.bool n2,s2]∧aF w s1 l1∧aF w s2 l2∧l1.length≤K∧l2.length≤K∧nrm n1 n2 (Na.val l1) (Na.val l2)=q
theorem dQ.below{K:Nat}{w w':World}{v:Value}{q:Bool×Nat×Nat}(h:dQ K w v q)(hb:Ext w w'):dQ K w' v q:=by
 obtain⟨n1,s1,l1,n2,s2,l2,hv,h1,h2,h3,h4,h5⟩:=h; exact⟨n1,s1,l1,n2,s2,l2,hv,h1.below hb,h2.below hb,h3,h4,h5⟩
theorem dQ.shape{K:Nat}{w:World}{v:Value}{q:Bool×Nat×Nat}(h:dQ K w v q):∃n1 a1 m1 c1 n2 a2 m2 c2,v = .agg #[.bool n1,.slice a1 m1 c1,.bool n2,.slice a2 m2 c2]:=by
 obtain⟨n1,s1,l1,n2,s2,l2,rfl,h1,h2,_⟩:=h;obtain⟨a1,c1,rfl⟩:=h1.shape;obtain⟨a2,c2,rfl⟩:=h2.shape;exact⟨_,_,_,_,_,_,_,_,rfl⟩
theorem dQ.nrm{K:Nat}{w:World}{v:Value}{q:Bool×Nat×Nat}(h:dQ K w v q):IB q:=by
 obtain⟨n1,s1,l1,n2,s2,l2,_,_,_,_,_,rfl⟩:=h; exact P9 _ _ _ _
theorem dQ.pos{K:Nat}{w:World}{v:Value}{q:Bool×Nat×Nat}(h:dQ K w v q):0<q.2.2:=by
 obtain⟨n1,s1,l1,n2,s2,l2,_,_,_,_,_,rfl⟩:=h; exact acQ _ _ _ _
theorem dQ.len{K:Nat}{w:World}{v:Value}{q:Bool×Nat×Nat}(h:dQ K w v q)(hK:1≤K):qlen K q:=by
 obtain⟨n1,s1,l1,n2,s2,l2,_,_,_,h3,h4,rfl⟩:=h;have:=LX n1 n2 l1 l2;exact⟨by omega,by omega⟩
theorem dH.toQ{w:World}{r:dH}{K:Nat}(h:r.ok w)(hf:r.fit K):dQ K w r.v r.q:=⟨r.n1,r.s1,r.l1,r.n2,r.s2,r.l2,rfl,h.1,h.2,hf.1,hf.2,rfl⟩
theorem aB.toQ{base K:Nat}{w:World}{v:Value}{q:Bool×Nat×Nat}(h:bP base w v q)(hn:IB q)(hl:qlen K q):dQ K w v q:=by
 obtain⟨s,t,rfl,hs,ht,_,_⟩:=h;exact⟨_,s,_,_,t,_,rfl,hs,ht,hl.1,hl.2,by rw[Na.aJ,Na.aJ]; exact hn⟩
theorem aB.parts'{base K:Nat}{w:World}{n m:Bool}{s t:Value}{q:Bool×Nat×Nat}(h:bP base w (.agg #[.bool n,s,.bool m,t]) q)(hl:qlen K q) :
  gy K w (.agg #[.bool n,s]) (qz q)∧gy K w (.agg #[.bool m,t]) (q.2.2:Int):=by
 obtain⟨s',t',e,hs,ht,_,_⟩:=h;simp only[apx,apy,aoM,Value.bool.injEq,and_true]at e;obtain⟨rfl,rfl,rfl,rfl⟩:=e;exact⟨⟨_,_,_,rfl,hs,hl.1,by rw[Na.aJ]; rfl⟩,⟨_,_,_,rfl,ht,hl.2,by rw[Na.aJ]; rfl⟩⟩
end
end Go.Proofs.YtapmgonflgahbaaGreatDoor
section
namespace Go.Vp
open Go.Proofs.YtapmgonflgahbaaGreatDoor Go.RowKit Go.Rel
structure St (a:Act) (n:Nat) (l:List (Nat×Value)):Prop where
 size:a.tmps.size=n
 defers:a.defers=[]
 has:∀i v,l.lookup i=some v→a.eval (.tmp i)=v
def ev(l:List (Nat×Value)):Operand→Option Value
 | .tmp i=>l.lookup i
 | .const v=>some v
 | .global g=>some (.q g 0)
 | .func f=>some (.func (.func f) #[] #[])
section
variable{P:Program}{ops:Array Oper}{Q:Exit→Act→World→Prop}{a:Act}{w:World}{rest:List Oper}{o:Oper}{n:Nat}{l:List (Nat×Value)}
theorem St.ev{x:Operand}{v:Value}(h:St a n l)(he:ev l x=some v):a.eval x=v:=by
 cases x with
 | tmp i=>exact h.has i v he
 | const c=>exact aof he
 | global g=>exact aof he
 | func f=>exact aof he
theorem St.put(h:St a n l)(d:Nat)(hd:d<n)(v:Value):St (a.put (some d) v) n ((d,v)::l):=by
 refine⟨by rw[xP]; exact h.size,by rw[put_defers]; exact h.defers,fun i u hu=>?_⟩;rw[aoN]at hu;by_cases hi:i=d
 ·subst hi;simp only[apS]at hu;obtain rfl:=aof hu;have hlt:i<a.tmps.size:=by rw[h.size]; exact hd
  simp[Act.eval,Act.put,hlt]
 have e:(i==d)=false:=by simpa using hi
 rw[e]at hu;rw[qH (sU a (some d) v i (fun e=>hi (aof e).symm))];exact h.has i u hu
theorem XJ{ty:TypeId}{b off:Nat}{d:TypeDesc}{v:Value}(hv:w.cell? ⟨b,off,none⟩=some v)(hu:P.underlying ty=some d)(hrow:d.isRow=false) :
  (Instr.loadAt ty (.q b off)).run P w = .ok v w:=by
 have hagg:(isAgg ty).run P w = .ok false w:=by
  unfold isAgg;rw[aoV,run_underlying hu w];cases d<;>simp_all
 simp only[aoV,Instr.loadAt,Instr.sureAddr,Sem.run_pure,ap2,loadVar,hagg];simp[hv]
class Ret (Q:Exit→Act→World→Prop) (Q':outParam (Exit→Act→World→Prop)):Prop where
 out:∀a w,Q' .ret a w→Q .ret a w
instance ahx {fn:Func}{R:Ending→World→Prop}:Ret (bodyPost P fn R) (bodyPost P fn R):=⟨fun _ _ h=>h⟩
instance ahy {Q Q':Exit→Act→World→Prop}{K:Act→World→Prop}[r:Ret Q Q']:Ret (Exit.then K Q) Q':=⟨fun a w h=>r.out a w h⟩
instance agj {Q Q':Exit→Act→World→Prop}{id:Nat}[r:Ret Q Q']:Ret (Exit.inBlock id Q) Q':=⟨fun a w h=>r.out a w h⟩
theorem rt{Q Q':Exit→Act→World→Prop}[r:Ret Q Q'](h:Q' .ret a w):Code.ret.wp P Q a w:=wp_ret (r.out a w h)
theorem enter{f:FuncId}{fn:Func}{c:Code}{args:Array Value}{R:Ending→World→Prop}(hf:P.funcs[f]?=some fn)(hb:fn.body=some c)(hsz:decide (args.size≤fn.ntmps)=true)
  (h:∀a,St a fn.ntmps ((List.range args.size).zip args.toList)→c.wp P (bodyPost P fn R) a w):Calls P f args w R:=by
 refine calls_of_wp hf hb (h _ ⟨?_,rfl,fun i v hv=>?_⟩)
 ·have:args.size≤fn.ntmps:=by simpa using hsz
  simp; omega
 have key:∀(l:List Value) (k:Nat),((List.range' k l.length).zip l).lookup i=some v→k≤i∧l[i-k]?=some v:=by
  intro l;induction l with
  | nil=>intro k h; simp at h
  | cons x l ih =>
   intro k h;simp only[aop,List.range'_succ,List.zip_cons_cons,aoN]at h;by_cases hik:i=k
   ·subst hik; simp at h; simp[h]
   have e:(i==k)=false:=by simpa using hik
   rw[e]at h;obtain⟨h1,h2⟩:=ih (k+1) h;exact⟨by omega,by rw[show i-k=(i-(k+1))+1 by omega,List.getElem?_cons_succ]; exact h2⟩
 rw[List.range_eq_range',←Array.length_toList]at hv;obtain⟨-,h2⟩:=key args.toList 0 hv;simp only[Nat.sub_zero]at h2;simp only[Act.eval,Array.getD_eq_getD_getElem?];have hlt:i<args.size:=by have:=(List.getElem?_eq_some_iff.1 h2).1; simpa using this
 rw[Array.getElem?_append_left hlt];have:args[i]?=some v:=by simpa using h2
 rw[this]; rfl
theorem region{id:Nat}{l':List Oper}(h:wpList P l'.toArray Q l' a w):(Code.region id l'.toArray false).wp P Q a w:=wp_region_lit h
theorem loop{ι:Type}{c:Code}(I:ι→Act→World→Prop)(μ:ι→Nat)(i0:ι)(h0:I i0 a w)
  (round:∀i a w,I i a w→c.wp P (Exit.then (fun a' w'=>∃i',I i' a' w'∧μ i'<μ i) Q) a w):(Code.loop c).wp P Q a w:=by
 intro b k cs;have key:∀m i a w,μ i=m→I i a w→∃e a' w',Q e a' w'∧Arrives P (lone (b.at a (.code c :: .inLoop c::k)) cs w) b k cs e a' w':=by
  intro m;induction m using Nat.strongRecOn with
  | _ m ih =>
   intro i a w hm hI;obtain⟨e,a₁,w₁,hq,harr⟩:=round i a w hI b (.inLoop c::k) cs;cases e with
   | normal =>
    obtain⟨i',hI₁,hlt⟩:=hq;obtain⟨e₂,a₂,w₂,hq₂,harr₂⟩:=ih (μ i') (hm▸hlt) i' a₁ w₁ rfl hI₁;exact⟨e₂,a₂,w₂,hq₂,.of_steps (Steps.trans harr (.one step_inLoop)) harr₂⟩
   | exit id=>exact⟨_,a₁,w₁,hq,.pass (x := .inLoop c) rfl (fun _ _ => .inl (by simp)) harr⟩
   | goto l=>exact⟨_,a₁,w₁,hq,.pass (x := .inLoop c) rfl (fun _ _ => .inl (by simp)) harr⟩
   | ret=>exact⟨_,a₁,w₁,hq,.pass (x := .inLoop c) rfl (fun _ _ => .inl (by simp)) harr⟩
   | panic ch=>exact⟨_,a₁,w₁,hq,.pass (x := .inLoop c) rfl (fun _ _ => .inl (by simp)) harr⟩
   | outgrown=>exact⟨_,a₁,w₁,hq,.pass (x := .inLoop c) rfl (fun _ _ => .inl (by simp)) harr⟩
 obtain⟨e,a',w',hq,harr⟩:=key _ i0 a w rfl h0;exact⟨e,a',w',hq,.of_steps (.one step_loop) harr⟩
theorem acR(hs:St a n l){fn:Func}{R:Ending→World→Prop}{r:Nat}{v:Value}(hr:fn.results = #[.tmp r])(hv:ev l (.tmp r)=some v)(h:R (.returned v) w):bodyPost P fn R .ret a w:=by
 refine⟨hs.defers,v,?_,h⟩;have h1:=hs.ev hv;unfold results;rw[hr];simp only[Act.eval,Array.getD_eq_getD_getElem?]at h1;simp[h1]
theorem aa2(hs:St a n l){fn:Func}{R:Ending→World→Prop}{r s:Nat}{v u:Value}(hr:fn.results = #[.tmp r,.tmp s])(hv:ev l (.tmp r)=some v)(hu:ev l (.tmp s)=some u)(h:R (.returned (.tuple #[v,u])) w):bodyPost P fn R .ret a w:=by
 refine⟨hs.defers,_,?_,h⟩;have h1:=hs.ev hv;have h2:=hs.ev hu;unfold results;rw[hr];simp only[Act.eval,Array.getD_eq_getD_getElem?]at h1 h2;simp[h1,h2]
end
end Go.Vp
end
section
namespace Go.Vp
open Go.Proofs.YtapmgonflgahbaaGreatDoor Go.RowKit Go.Rel
section
variable{P:Program}{ops:Array Oper}{Q:Exit→Act→World→Prop}{a:Act}{w:World}{rest:List Oper}{o:Oper}{n:Nat}{l:List (Nat×Value)}
theorem XK{ρ:Operand→Value}{t e:TypeId}{x ix:Operand}{b off len cap k:Nat}{kd:IntKind}(i:Nat)(hop:o.op = .indexAddr t x ix)(hx:ρ x = .slice (some ⟨b,off,none⟩) len cap)(hi:ρ ix = .int kd (i:Int))(hlt:i<len)
  (hu:P.underlying t=some (.slice e)) (hsz:(P.info? e).map (·.size)=some k):(execOp ρ o).run P w = .ok (.value (.pointer (some ⟨b,off+i*k,none⟩))) w:=by
 have he:P.elem t=e:=by unfold Program.elem; rw[hu]
 have h1:=run_indexAt_slice (P:=P) w t ⟨b,off,none⟩ len cap kd (i:Int) (by rw[he]; exact hu);rw[an6 ⟨by omega,by omega⟩,he]at h1;have h2:(sizeOf e).run P w = .ok k w:=by
  cases hq:P.info? e with
  | none=>simp[hq]at hsz
  | some j =>
   have:j.size=k:=by simpa[hq]using hsz
   simp[sizeOf,typeInfo,hq,this]
 rw[h2]at h1;simp only[Result.andThen,aqj]at h1;have e2:(⟨b,off,none⟩:Addr).add (i*k)=⟨b,off+i*k,none⟩:=Addr.add_mid _ _ _;rw[e2]at h1;unfold execOp;simp only[hop,hx,hi,aoV,h1];rfl
theorem Qa{α:Type}{k:Nat}{f:α→List Value}{v:Value}{L:List α}(h:aV k f w v L)(hf:∀x,(f x).length=k)(i:Nat)(hi:i<L.length) :
  ∃b off cap,v = .slice (some ⟨b,off,none⟩) L.length cap∧b<w.heap.size∧w.rangeAt b (off+i*k) (f L[i]):=by
 obtain⟨b,off,cap,hv,hb,hl,hm,hc⟩:=XI h (by omega);refine⟨b,off,cap,hv,hb,fun j u hj=>?_⟩;have hjl:j<k:=by have:=(List.getElem?_eq_some_iff.1 hj).1; rw[hf]at this; exact this
 rw[hc i hi j hjl]; exact hj
theorem gG{α:Type}{k:Nat}{f:α→List Value}{a:Option Addr}{n c:Nat}{L:List α}(h:aV k f w (.slice a n c) L)(hf:∀x,(f x).length=k)(i:Nat)(hi:i<L.length) :
  ∃b o,a=some ⟨b,o,none⟩∧∃x,L[i]=x∧b<w.heap.size∧w.rangeAt b (o+i*k) (f x):=by
 obtain⟨b,o,cap,hv,hb,hr⟩:=Qa h hf i hi;simp only[aoB]at hv;exact⟨b,o,hv.1,_,rfl,hb,hr⟩
theorem Xl{α:Type}{k:Nat}{f:α→List Value}{b o n c:Nat}{L:List α}(h:aV k f w (.slice (some ⟨b,o,none⟩) n c) L)(hf:∀x,(f x).length=k)(i:Nat)(hi:i<L.length) :
  ∃x,L[i]=x∧b<w.heap.size∧w.rangeAt b (o+i*k) (f x):=by
 obtain⟨b1,o1,h1,x,hx,hb,hr⟩:=gG h hf i hi;simp only[an8,Addr.mk.injEq,and_true]at h1;obtain⟨rfl,rfl⟩:=h1;exact⟨x,hx,hb,hr⟩
theorem uN{w w':World}{b off:Nat}{cs:List Value}(h:w.rangeAt b off cs)(hb:b<w.heap.size)(he:Ext w w'):w'.rangeAt b off cs:=fun j v hv=>by
 rw[he.cell (p:=⟨b,off+j,none⟩) hb]; exact h j v hv
theorem Zp{α:Type}{k:Nat}{f:α→List Value}{v:Value}{L:List α}(h:aV k f w v L):v.oneCell'=true:=by obtain⟨a,cap,rfl⟩:=h.shape; rfl
theorem mW{v:Value}{L:List UInt32}(h:aF w v L):v.oneCell'=true:=by obtain⟨a,cap,rfl,_⟩:=h; rfl
end
end Go.Vp
namespace Go.Vp
open Go.Proofs.YtapmgonflgahbaaGreatDoor Go.RowKit Go.Rel
end Go.Vp
end
theorem an2:type_of% @Go.Vp.rt:=@Go.Vp.rt
theorem an3:type_of% @Go.Vp.region:=@Go.Vp.region
theorem aom:type_of% @Go.Vp.gG:=@Go.Vp.gG
theorem aow:type_of% @Go.Vp.loop:=@Go.Vp.loop
