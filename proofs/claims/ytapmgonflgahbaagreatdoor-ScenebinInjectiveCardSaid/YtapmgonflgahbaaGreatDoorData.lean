/- Plain laws of signed numbers and of rational numbers by value: no program in sight. -/
import Derived.Test.YtapmgonflgahbaaGreatDoorRat
namespace Go.Proofs.YtapmgonflgahbaaGreatDoor
open Go.RowKit
variable{α:Type}
def zv(n:Bool)(a:Nat):Int:=if n then -(a:Int)else (a:Int)
theorem TQ(n:Bool)(a:Nat):decide (zv n a<0)=(n&&decide (0<a)):=by
 unfold zv;cases n
 ·simp
 rw[ajw,decide_eq_decide]; simp
theorem pV(n:Bool)(a:Nat):(zv n a).natAbs=a:=by unfold zv; cases n<;>simp
theorem aa2(n:Bool)(a:Nat):zv (!n) a = -zv n a:=by unfold zv; cases n<;>simp
theorem NP(z:Int):zv (decide (z<0)) z.natAbs=z:=by
 unfold zv;by_cases h:z<0
 ·rw[ajd h,aib rfl]; omega
 rw[ajx h,ah7 (by simp)]; omega
theorem aa3(n m:Bool)(a b:Nat):zv n a*zv m b=zv (n != m) (a*b):=by unfold zv; cases n<;>cases m<;>simp[Int.mul_neg,Int.neg_mul,Int.neg_neg]
theorem Ia(n:Bool)(a b:Nat):zv n a+zv n b=zv n (a+b):=by
 unfold zv;cases n
 ·simp
 simp only[if_true]; omega
theorem yP{n m:Bool}{a b:Nat}(h:n≠m)(hle:b≤a):zv n a+zv m b=zv n (a-b):=by
 unfold zv;cases n<;>cases m<;>simp only[ne_eq,not_true_eq_false,reduceCtorEq,if_true,if_false,aj9]at * <;> omega
theorem Fh{n m:Bool}{a b:Nat}(h:n≠m)(hle:a≤b):zv n a+zv m b=zv m (b-a):=by
 rw[Int.add_comm]; exact yP (fun e=>h e.symm) hle
theorem aa4(n:Bool)(a:Nat):oK n a=(zv n a).sign:=by
 unfold oK zv;rcases aiL a with h | h
 ·subst h; cases n<;>rfl
 rw[ah7 (by omega)];cases n
 ·rw[ah7 (by simp),ah7 (by simp),Int.sign_eq_one_of_pos (by omega)]
 rw[aib rfl,aib rfl,Int.sign_eq_neg_one_of_neg (by omega)]
abbrev wI (base:Nat)(w:World)(v:Value)(z:Int):Prop:=aJ base w v (decide (z<0)) z.natAbs
theorem Aq{base:Nat}{w:World}{v:Value}{n:Bool}{a:Nat}(h:aJ base w v (n&&decide (0<a)) a):wI base w v (zv n a):=by
 unfold wI; rw[TQ,pV]; exact h
def nz(x:Int)(d:Nat):Bool×Nat×Nat:=nrm (decide (x<0)) false x.natAbs d
def qz(r:Bool×Nat×Nat):Int:=zv r.1 r.2.1
def vG(r s:Bool×Nat×Nat):Bool×Nat×Nat:=nz (qz r*qz s) (r.2.2*s.2.2)
def Dy(r s:Bool×Nat×Nat):Bool×Nat×Nat:=nz (qz r*s.2.2-qz s*r.2.2) (r.2.2*s.2.2)
def mg(r s:Bool×Nat×Nat):Int:=(qz r*s.2.2-qz s*r.2.2).sign
theorem NQ(n1 n2:Bool)(l m:List UInt32):(Na.ak (nrm n1 n2 (Na.val l) (Na.val m)).2.1).length≤l.length∧(Na.ak (nrm n1 n2 (Na.val l) (Na.val m)).2.2).length≤max 1 m.length:=by
 unfold nrm;split
 ·have h1:(Na.ak 1).length≤1:=Na.bf (by decide);exact⟨by rw[Na.nK]; simp,by simp only; omega⟩
 have h1:=dU (ajO (Na.val l) (Nat.gcd (Na.val l) (Na.val m)));have h2:=dU (ajO (Na.val m) (Nat.gcd (Na.val l) (Na.val m)));have:=bD l;have:=bD m;simp only; omega
open Go.RowKit
variable{α:Type}
set_option linter.unusedVariables false
def aN(k:Nat)(f:α→List Value)(w:World)(v:Value)(l:List α):Prop:=
 ∃a cap,v = .slice a l.length cap∧cap≤maxLen ∧
  ((l=[]∧(a=none→cap=0)) ∨
   ∃b o,a=some ⟨b,o,none⟩∧b<w.heap.size∧l.length≤cap∧∀i (h:i<l.length) (j:Nat),j<k→w.cell? ⟨b,o+i*k+j,none⟩=(f l[i])[j]?)
theorem aN.below{k:Nat}{f:α→List Value}{w w':World}{v:Value}{l:List α}(h:aN k f w v l)(hb:Below w.heap.size w w'):aN k f w' v l:=by
 obtain⟨a,cap,hv,hm,h⟩:=h;refine⟨a,cap,hv,hm,?_⟩;rcases h with h | ⟨b,o,ha,hlt,hl,hc⟩
 ·exact .inl h
 exact .inr ⟨b,o,ha,by have:=hb.size; omega,hl,fun i hi j hj=>by rw[hb.cell (p:=⟨b,o+i*k+j,none⟩) hlt]; exact hc i hi j hj⟩
theorem aN.shape{k:Nat}{f:α→List Value}{w:World}{v:Value}{l:List α}(h:aN k f w v l):∃a cap,v = .slice a l.length cap:=by
 obtain⟨a,cap,h,_⟩:=h; exact⟨a,cap,h⟩
theorem aN.len{k:Nat}{f:α→List Value}{w:World}{v:Value}{l:List α}(h:aN k f w v l):l.length≤maxLen:=by
 obtain⟨a,cap,rfl,hm,h⟩:=h;rcases h with ⟨rfl,_⟩ | ⟨b,o,rfl,hb,hl,hc⟩
 ·simp
 omega
theorem jC(k:Nat)(f:α→List Value)(w:World):aN k f w (.sn) []:=⟨none,0,rfl,aij _,.inl ⟨rfl,fun _=>rfl⟩⟩
theorem P8{k:Nat}{f:α→List Value}{w:World}{v:Value}{l:List α}(h:aN k f w v l)(hp:0<l.length) :
  ∃b o cap,v = .slice (some ⟨b,o,none⟩) l.length cap∧b<w.heap.size∧l.length≤cap∧cap≤maxLen∧∀i (h:i<l.length) (j:Nat),j<k→w.cell? ⟨b,o+i*k+j,none⟩=(f l[i])[j]?:=by
 obtain⟨a,cap,rfl,hm,h⟩:=h;rcases h with ⟨rfl,_⟩ | ⟨b,o,rfl,hb,hl,hc⟩
 ·simp at hp
 exact⟨b,o,cap,rfl,hb,hl,hm,hc⟩
theorem nU{f:α→Value}{w:World}{v:Value}{l:List α}(h:bV f w v l):aN 1 (fun x=>[f x]) w v l:=by
 obtain⟨a,cap,hv,hm,h⟩:=h;refine⟨a,cap,hv,hm,?_⟩;rcases h with h | ⟨b,o,ha,hlt,hl,hc⟩
 ·exact .inl h
 refine .inr ⟨b,o,ha,hlt,hl,fun i hi j hj=>?_⟩;obtain rfl:j=0:=by omega
 simpa using hc i hi
abbrev I64 (x:Int):Prop := -9223372036854775808≤x∧x≤9223372036854775807
structure bP where
 n1:Bool
 a1:Option Addr
 c1:Nat
 l1:List UInt32
 n2:Bool
 a2:Option Addr
 c2:Nat
 l2:List UInt32
def bP.s1(r:bP):Value := .slice r.a1 r.l1.length r.c1
def bP.s2(r:bP):Value := .slice r.a2 r.l2.length r.c2
def bP.cells(r:bP):List Value:=[.bool r.n1,r.s1,.bool r.n2,r.s2]
def bP.v(r:bP):Value := .agg #[.bool r.n1,r.s1,.bool r.n2,r.s2]
def bP.ok(w:World)(r:bP):Prop:=aC w r.s1 r.l1∧aC w r.s2 r.l2
def bP.fit(k:Nat)(r:bP):Prop:=r.l1.length≤k∧r.l2.length≤k
def bP.q(r:bP):Bool×Nat×Nat:=nrm r.n1 r.n2 (Na.val r.l1) (Na.val r.l2)
theorem bP.ok.below{w w':World}{r:bP}(h:r.ok w)(hb:Ext w w'):r.ok w':=⟨h.1.below hb,h.2.below hb⟩
theorem bP.fit.mono{k k':Nat}{r:bP}(h:r.fit k)(hk:k≤k'):r.fit k':=⟨aiQ h.1 hk,aiQ h.2 hk⟩
structure bn where
 a:bP
 b:bP
 c:bP
 d:bP
 e:bP
 f:bP
def bn.cells(t:bn):List Value:=t.a.cells++t.b.cells++t.c.cells++t.d.cells++t.e.cells++t.f.cells
def bn.v(t:bn):Value := .agg t.cells.toArray
def bn.ok(w:World)(t:bn):Prop:=t.a.ok w∧t.b.ok w∧t.c.ok w∧t.d.ok w∧t.e.ok w∧t.f.ok w
def bn.fit(k:Nat)(t:bn):Prop:=t.a.fit k∧t.b.fit k∧t.c.fit k∧t.d.fit k∧t.e.fit k∧t.f.fit k
theorem bn.ok.below{w w':World}{t:bn}(h:t.ok w)(hb:Ext w w'):t.ok w':=
 ⟨h.1.below hb,h.2.1.below hb,h.2.2.1.below hb,h.2.2.2.1.below hb,h.2.2.2.2.1.below hb,h.2.2.2.2.2.below hb⟩
def dP(q:Bool×Nat×Nat):Nat:=max (bl q.2.1) (bl q.2.2)
def q0:Bool×Nat×Nat:=(false,0,1)
def nJ(p q:Bool×Nat×Nat):Bool:=mg p q==0
structure kH where
 x:Int
 y:Int
deriving DecidableEq
def kH.ok(p:kH):Prop:=I64 p.x∧I64 p.y
def cok(x:Int):Bool:=decide (-1048576≤x)&&decide (x≤1048576)
def kH.valid(p:kH):Bool:=cok p.x&&cok p.y
def kH.zero(p:kH):Bool:=(p.x==0)&&(p.y==0)
structure eG where
 verb:Int
 a:kH
 b:kH
 c:kH
deriving DecidableEq
def eG.cells(s:eG):List Value:=[.i s.verb,.i s.a.x,.i s.a.y,.i s.b.x,.i s.b.y,.i s.c.x,.i s.c.y]
def eG.ok(s:eG):Prop:=I64 s.verb∧s.a.ok∧s.b.ok∧s.c.ok
def named(v:Int):Int:=if v=4 then 3 else if v=3 then 2 else if v=1∨v=2 then 1 else if v=5 then 0 else -1
def rO(v:Int)(i:Int)(p:kH):Bool:=p.valid && !(decide (named v≤i) && !p.zero)
def eG.fits(s:eG):Bool:=rO s.verb 0 s.a&&(rO s.verb 1 s.b&&rO s.verb 2 s.c)
def eG.stands(last:Int)(s:eG):Bool:=(s.verb==1)||((last != 5)&&((s.verb != 5)||(last != 1)))
def eG.err(last:Int)(s:eG):Int:=if named s.verb<0 then 2 else if s.stands last=false then 10 else if s.fits=false then 6 else 0
def oP:Int→Int→List eG→Int×Int
 | _,_,[]=>(0,0)
 | last,i,s::l=>if s.err last=0 then oP s.verb (i+1) l else (s.err last,i)
def eP(l:List eG):Int×Int:=if 256<(l.length:Int)then (5,256)else oP 5 0 l
def iV(l:List eG):Bool:=(eP l).1==0
structure dA where
 r:UInt8
 g:UInt8
 b:UInt8
 a:UInt8
deriving DecidableEq
def dA.cells(p:dA):List Value:=[dQ p.r,dQ p.g,dQ p.b,dQ p.a]
def dA.valid(p:dA):Bool:=decide (p.r≤p.a)&&(decide (p.g≤p.a)&&decide (p.b≤p.a))
structure cZ where
 w:Int
 h:Int
 sa:Option Addr
 sc:Nat
 l:List dA
def cZ.s(m:cZ):Value := .slice m.sa m.l.length m.sc
def cZ.cells(m:cZ):List Value:=[.i m.w,.i m.h,m.s]
def cZ.v(m:cZ):Value := .agg #[.i m.w,.i m.h,m.s]
def cZ.ok(W:World)(m:cZ):Prop:=I64 m.w∧I64 m.h∧aN 4 dA.cells W m.s m.l
theorem cZ.ok.below{w w':World}{t:cZ}(h:t.ok w)(hb:Ext w w'):t.ok w':=⟨h.1,h.2.1,h.2.2.below hb⟩
def side(n:Int):Bool:=decide (1≤n)&&decide (n≤4096)
def cZ.size(m:cZ):Bool:=side m.w&&(side m.h&&decide (m.w*m.h≤65536))
def cZ.valid(m:cZ):Bool:=m.size&&(((m.l.length:Int)==m.w*m.h)&&m.l.all dA.valid)
def cZ.eq(m n:cZ):Bool:=(m.w==n.w)&&((m.h==n.h)&&(m.l==n.l))
structure eY where
 o:Int
 c:dA
deriving DecidableEq
def eY.cells(s:eY):List Value:=[.i s.o,dQ s.c.r,dQ s.c.g,dQ s.c.b,dQ s.c.a]
def eY.ok(s:eY):Prop:=I64 s.o
def fC:Int→List eY→Bool
 | _,[]=>true
 | at',s::l=>decide (at'≤s.o)&&(decide (s.o≤65536)&&fC s.o l)
def gK(l:List eY):Bool:=decide (1≤l.length)&&(decide (l.length≤16)&&fC 0 l)
structure au where
 kind:Int
 color:dA
 p0:kH
 p1:kH
 bF:Int
 sva:Option Addr
 svc:Nat
 stops:List eY
 spread:Int
 img:cZ
 bQ:Int
 t:bn
def au.sv(p:au):Value := .slice p.sva p.stops.length p.svc
def au.cells(p:au):List Value:=
 [.i p.kind,dQ p.color.r,dQ p.color.g,dQ p.color.b,dQ p.color.a,.i p.p0.x,.i p.p0.y,.i p.p1.x,.i p.p1.y,.i p.bF,p.sv,.i p.spread,
  .i p.img.w,.i p.img.h,p.img.s,.i p.bQ]++p.t.cells
def au.v(p:au):Value := .agg p.cells.toArray
def au.ok(w:World)(p:au):Prop:=
 I64 p.kind∧p.p0.ok∧p.p1.ok∧I64 p.bF∧aN 5 eY.cells w p.sv p.stops∧(∀s∈p.stops,s.ok)∧I64 p.spread∧p.img.ok w∧I64 p.bQ∧p.t.ok w
theorem au.ok.below{w w':World}{p:au}(h:p.ok w)(hb:Ext w w'):p.ok w':=by
 obtain⟨h1,h2,h3,h4,h5,h6,h7,h8,h9,h10⟩:=h;exact⟨h1,h2,h3,h4,h5.below hb,h6,h7,h8.below hb,h9,h10.below hb⟩
def iM(n:Int):Bool:=decide (1≤n)&&decide (n≤3)
structure aZ where
 width:Int
 join:Int
 cap:Int
 dZ:Int
 sa:Option Addr
 sc:Nat
 dash:List Int
 phase:Int
def aZ.s(p:aZ):Value := .slice p.sa p.dash.length p.sc
def Ib(x:Int):Value := .i x
def aZ.cells(p:aZ):List Value:=[.i p.width,.i p.join,.i p.cap,.i p.dZ,p.s,.i p.phase]
def aZ.v(p:aZ):Value := .agg #[.i p.width,.i p.join,.i p.cap,.i p.dZ,p.s,.i p.phase]
def aZ.ok(w:World)(p:aZ):Prop:=I64 p.width∧I64 p.join∧I64 p.cap∧I64 p.dZ∧bV Ib w p.s p.dash∧(∀x∈p.dash,I64 x)∧I64 p.phase
theorem aZ.ok.below{w w':World}{p:aZ}(h:p.ok w)(hb:Ext w w'):p.ok w':=⟨h.1,h.2.1,h.2.2.1,h.2.2.2.1,h.2.2.2.2.1.below hb,h.2.2.2.2.2⟩
structure aA where
 id:Int
 kind:Int
 depth:Int
 t:bn
 csa:Option Addr
 csc:Nat
 clip:List eG
 aO:Int
 dJ:UInt8
 blend:Int
 isolated:Bool
 bY:Bool
 psa:Option Addr
 psc:Nat
 path:List eG
 aV:Int
 fsa:Option Addr
 fsc:Nat
 fill:List au
 style:aZ
 ssa:Option Addr
 ssc:Nat
 stroke:List au
 img:cZ
 bQ:Int
def aA.cs(n:aA):Value := .slice n.csa n.clip.length n.csc
def aA.ps(n:aA):Value := .slice n.psa n.path.length n.psc
def aA.fs(n:aA):Value := .slice n.fsa n.fill.length n.fsc
def aA.ss(n:aA):Value := .slice n.ssa n.stroke.length n.ssc
def aA.cells(n:aA):List Value:=
 [.i n.id,.i n.kind,.i n.depth]++n.t.cells++[n.cs,.i n.aO,dQ n.dJ,.i n.blend,.bool n.isolated,.bool n.bY,n.ps,.i n.aV,n.fs]++n.style.cells ++
  [n.ss]++n.img.cells++[.i n.bQ]
def aA.v(n:aA):Value := .agg n.cells.toArray
abbrev su (w:World)(v:Value)(l:List eG):Prop:=aN 7 eG.cells w v l∧∀s∈l,s.ok
abbrev jf (w:World)(v:Value)(l:List au):Prop:=aN 40 au.cells w v l∧∀p∈l,p.ok w
def aA.ok(w:World)(n:aA):Prop:=
 I64 n.id∧I64 n.kind∧I64 n.depth∧n.t.ok w∧su w n.cs n.clip∧I64 n.aO∧I64 n.blend∧su w n.ps n.path∧I64 n.aV∧jf w n.fs n.fill∧n.style.ok w∧jf w n.ss n.stroke ∧
  n.img.ok w∧I64 n.bQ
theorem su.below{w w':World}{v:Value}{l:List eG}(h:su w v l)(hb:Ext w w'):su w' v l:=⟨h.1.below hb,h.2⟩
theorem jf.below{w w':World}{v:Value}{l:List au}(h:jf w v l)(hb:Ext w w'):jf w' v l:=⟨h.1.below hb,fun p hp=>(h.2 p hp).below hb⟩
theorem aA.ok.below{w w':World}{n:aA}(h:n.ok w)(hb:Ext w w'):n.ok w':=by
 obtain⟨h1,h2,h3,h4,h5,h6,h7,h8,h9,h10,h11,h12,h13,KC⟩:=h;exact⟨h1,h2,h3,h4.below hb,h5.below hb,h6,h7,h8.below hb,h9,h10.below hb,h11.below hb,h12.below hb,h13.below hb,KC⟩
end Go.Proofs.YtapmgonflgahbaaGreatDoor
