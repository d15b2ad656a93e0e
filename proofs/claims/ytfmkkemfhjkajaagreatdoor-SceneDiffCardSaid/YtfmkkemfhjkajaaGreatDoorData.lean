/- Plain laws of signed numbers and of rational numbers by value: no program in sight. -/
import Derived.Test.YtfmkkemfhjkajaaGreatDoorRat
namespace Go.Proofs.YtfmkkemfhjkajaaGreatDoor
open Go.RowKit
variable{α:Type}
def zv(n:Bool)(a:Nat):Int:=if n then -(a:Int)else (a:Int)
theorem SV(n:Bool)(a:Nat):decide (zv n a<0)=(n&&decide (0<a)):=by
 unfold zv;cases n
 ·simp
 rw[ao4,decide_eq_decide]; simp
theorem lC(n:Bool)(a:Nat):(zv n a).natAbs=a:=by unfold zv; cases n<;>simp
theorem SX(n:Bool)(a:Nat):zv (!n) a = -zv n a:=by unfold zv; cases n<;>simp
theorem L6(z:Int):zv (decide (z<0)) z.natAbs=z:=by
 unfold zv;by_cases h:z<0
 ·rw[aoi h,anv rfl]; omega
 rw[aow h,anq (by simp)]; omega
theorem aam(n m:Bool)(a b:Nat):zv n a*zv m b=zv (n != m) (a*b):=by unfold zv; cases n<;>cases m<;>simp[Int.mul_neg,Int.neg_mul,Int.neg_neg]
theorem Ea(n:Bool)(a b:Nat):zv n a+zv n b=zv n (a+b):=by
 unfold zv;cases n
 ·simp
 simp only[if_true]; omega
theorem yh{n m:Bool}{a b:Nat}(h:n≠m)(hle:b≤a):zv n a+zv m b=zv n (a-b):=by
 unfold zv;cases n<;>cases m<;>simp only[ne_eq,not_true_eq_false,reduceCtorEq,if_true,if_false,apD]at * <;> omega
theorem BG{n m:Bool}{a b:Nat}(h:n≠m)(hle:a≤b):zv n a+zv m b=zv m (b-a):=by
 rw[Int.add_comm]; exact yh (fun e=>h e.symm) hle
theorem aan(n:Bool)(a:Nat):uq n a=(zv n a).sign:=by
 unfold uq zv;rcases aof a with h | h
 ·subst h; cases n<;>rfl
 rw[anq (by omega)];cases n
 ·rw[anq (by simp),anq (by simp),Int.sign_eq_one_of_pos (by omega)]
 rw[anv rfl,anv rfl,Int.sign_eq_neg_one_of_neg (by omega)]
abbrev pY (base:Nat)(w:World)(v:Value)(z:Int):Prop:=aH base w v (decide (z<0)) z.natAbs
theorem vw{base:Nat}{w:World}{v:Value}{n:Bool}{a:Nat}(h:aH base w v (n&&decide (0<a)) a):pY base w v (zv n a):=by
 unfold pY; rw[SV,lC]; exact h
def nz(x:Int)(d:Nat):Bool×Nat×Nat:=nrm (decide (x<0)) false x.natAbs d
def qz(r:Bool×Nat×Nat):Int:=zv r.1 r.2.1
def oQ(r s:Bool×Nat×Nat):Bool×Nat×Nat:=nz (qz r*qz s) (r.2.2*s.2.2)
def Gf(r s:Bool×Nat×Nat):Bool×Nat×Nat:=nz (qz r*s.2.2+qz s*r.2.2) (r.2.2*s.2.2)
def vC(r s:Bool×Nat×Nat):Bool×Nat×Nat:=nz (qz r*s.2.2-qz s*r.2.2) (r.2.2*s.2.2)
def lD(r s:Bool×Nat×Nat):Int:=(qz r*s.2.2-qz s*r.2.2).sign
def vT(r:Bool×Nat×Nat):Bool×Nat×Nat:=(!r.1&&decide (0<r.2.1),r.2)
theorem afq(r:Bool×Nat×Nat):qz (vT r) = -qz r:=by
 obtain⟨n,a,b⟩:=r;unfold qz vT zv;cases n
 ·simp only[Bool.not_false,ao4,anT,apD,if_false];split<;>omega
 simp
theorem adx(n1 n2:Bool)(l m:List UInt32):(Na.au (nrm n1 n2 (Na.val l) (Na.val m)).2.1).length≤l.length∧(Na.au (nrm n1 n2 (Na.val l) (Na.val m)).2.2).length≤max 1 m.length:=by
 unfold nrm;split
 ·have h1:(Na.au 1).length≤1:=Na.dP (by decide);exact⟨by rw[Na.nT]; simp,by simp only; omega⟩
 have h1:=fZ (apj (Na.val l) (Nat.gcd (Na.val l) (Na.val m)));have h2:=fZ (apj (Na.val m) (Nat.gcd (Na.val l) (Na.val m)));have:=bF l;have:=bF m;simp only; omega
open Go.RowKit
variable{α:Type}
set_option linter.unusedVariables false
def aN(k:Nat)(f:α→List Value)(w:World)(v:Value)(l:List α):Prop:=
 ∃a cap,v = .slice a l.length cap∧cap≤maxLen ∧
  ((l=[]∧(a=none→cap=0)) ∨
   ∃b o,a=some ⟨b,o,none⟩∧b<w.heap.size∧l.length≤cap∧∀i (h:i<l.length) (j:Nat),j<k→w.cell? ⟨b,o+i*k+j,none⟩=(f l[i])[j]?)
theorem aN.below{k:Nat}{f:α→List Value}{w w':World}{v:Value}{l:List α}(h:aN k f w v l)(hb:Below w.heap.size w w'):aN k f w' v l:=by
 obtain⟨a,cap,hv,hm,h⟩:=h;refine⟨a,cap,hv,hm,?_⟩;rcases h with h | ⟨b,o,ha,hlt,hl,hc⟩
 ·exact .inl h
 exact .inr ⟨b,o,ha,by have:=hb.size; omega,hl,fun i hi j hj=>by rw[hb.cell (p:=⟨b,o+i*k+j,none⟩) hlt]; exact hc i hi j hj⟩
theorem aN.shape{k:Nat}{f:α→List Value}{w:World}{v:Value}{l:List α}(h:aN k f w v l):∃a cap,v = .slice a l.length cap:=by
 obtain⟨a,cap,h,_⟩:=h; exact⟨a,cap,h⟩
theorem aN.len{k:Nat}{f:α→List Value}{w:World}{v:Value}{l:List α}(h:aN k f w v l):l.length≤maxLen:=by
 obtain⟨a,cap,rfl,hm,h⟩:=h;rcases h with ⟨rfl,_⟩ | ⟨b,o,rfl,hb,hl,hc⟩
 ·simp
 omega
theorem mV(k:Nat)(f:α→List Value)(w:World):aN k f w (.slice none 0 0) []:=⟨none,0,rfl,anz _,.inl ⟨rfl,fun _=>rfl⟩⟩
theorem JZ{k:Nat}{f:α→List Value}{w:World}{v:Value}{l:List α}(h:aN k f w v l)(hp:0<l.length) :
  ∃b o cap,v = .slice (some ⟨b,o,none⟩) l.length cap∧b<w.heap.size∧l.length≤cap∧cap≤maxLen∧∀i (h:i<l.length) (j:Nat),j<k→w.cell? ⟨b,o+i*k+j,none⟩=(f l[i])[j]?:=by
 obtain⟨a,cap,rfl,hm,h⟩:=h;rcases h with ⟨rfl,_⟩ | ⟨b,o,rfl,hb,hl,hc⟩
 ·simp at hp
 exact⟨b,o,cap,rfl,hb,hl,hm,hc⟩
theorem dW{f:α→Value}{w:World}{v:Value}{l:List α}(h:fA f w v l):aN 1 (fun x=>[f x]) w v l:=by
 obtain⟨a,cap,hv,hm,h⟩:=h;refine⟨a,cap,hv,hm,?_⟩;rcases h with h | ⟨b,o,ha,hlt,hl,hc⟩
 ·exact .inl h
 refine .inr ⟨b,o,ha,hlt,hl,fun i hi j hj=>?_⟩;obtain rfl:j=0:=by omega
 simpa using hc i hi
abbrev I64 (x:Int):Prop := -9223372036854775808≤x∧x≤9223372036854775807
structure bP where
 n1:Bool
 a1:Option Addr
 c1:Nat
 l1:List UInt32
 n2:Bool
 a2:Option Addr
 c2:Nat
 l2:List UInt32
def bP.s1(r:bP):Value := .slice r.a1 r.l1.length r.c1
def bP.s2(r:bP):Value := .slice r.a2 r.l2.length r.c2
def bP.cells(r:bP):List Value:=[.bool r.n1,r.s1,.bool r.n2,r.s2]
def bP.v(r:bP):Value := .agg #[.bool r.n1,r.s1,.bool r.n2,r.s2]
def bP.ok(w:World)(r:bP):Prop:=aG w r.s1 r.l1∧aG w r.s2 r.l2
def bP.fit(k:Nat)(r:bP):Prop:=r.l1.length≤k∧r.l2.length≤k
def bP.q(r:bP):Bool×Nat×Nat:=nrm r.n1 r.n2 (Na.val r.l1) (Na.val r.l2)
theorem bP.ok.below{w w':World}{r:bP}(h:r.ok w)(hb:Ext w w'):r.ok w':=⟨h.1.below hb,h.2.below hb⟩
theorem bP.fit.mono{k k':Nat}{r:bP}(h:r.fit k)(hk:k≤k'):r.fit k':=⟨anN h.1 hk,anN h.2 hk⟩
structure aP where
 a:bP
 b:bP
 c:bP
 d:bP
 e:bP
 f:bP
def aP.cells(t:aP):List Value:=t.a.cells++t.b.cells++t.c.cells++t.d.cells++t.e.cells++t.f.cells
def aP.v(t:aP):Value := .agg t.cells.toArray
def aP.ok(w:World)(t:aP):Prop:=t.a.ok w∧t.b.ok w∧t.c.ok w∧t.d.ok w∧t.e.ok w∧t.f.ok w
def aP.fit(k:Nat)(t:aP):Prop:=t.a.fit k∧t.b.fit k∧t.c.fit k∧t.d.fit k∧t.e.fit k∧t.f.fit k
theorem aP.ok.below{w w':World}{t:aP}(h:t.ok w)(hb:Ext w w'):t.ok w':=
 ⟨h.1.below hb,h.2.1.below hb,h.2.2.1.below hb,h.2.2.2.1.below hb,h.2.2.2.2.1.below hb,h.2.2.2.2.2.below hb⟩
def bH(q:Bool×Nat×Nat):Nat:=max (bl q.2.1) (bl q.2.2)
def aP.valid(t:aP):Bool:=
 decide (bH t.a.q≤256)&&(decide (bH t.b.q≤256)&&(decide (bH t.c.q≤256)&&(decide (bH t.d.q≤256)&&(decide (bH t.e.q≤256)&&decide (bH t.f.q≤256)))))
def aP.xI(t:aP):Bool×Nat×Nat:=vC (oQ t.a.q t.d.q) (oQ t.b.q t.c.q)
def q0:Bool×Nat×Nat:=(false,0,1)
def pW(p q:Bool×Nat×Nat):Bool:=lD p q==0
def aP.eq(t u:aP):Bool:=pW t.a.q u.a.q&&(pW t.b.q u.b.q&&(pW t.c.q u.c.q&&(pW t.d.q u.d.q&&(pW t.e.q u.e.q&&pW t.f.q u.f.q))))
structure kZ where
 x:Int
 y:Int
deriving DecidableEq
def kZ.ok(p:kZ):Prop:=I64 p.x∧I64 p.y
def cok(x:Int):Bool:=decide (-1048576≤x)&&decide (x≤1048576)
def kZ.valid(p:kZ):Bool:=cok p.x&&cok p.y
def kZ.zero(p:kZ):Bool:=(p.x==0)&&(p.y==0)
structure eH where
 verb:Int
 a:kZ
 b:kZ
 c:kZ
deriving DecidableEq
def eH.cells(s:eH):List Value:=[.i s.verb,.i s.a.x,.i s.a.y,.i s.b.x,.i s.b.y,.i s.c.x,.i s.c.y]
def eH.ok(s:eH):Prop:=I64 s.verb∧s.a.ok∧s.b.ok∧s.c.ok
def named(v:Int):Int:=if v=4 then 3 else if v=3 then 2 else if v=1∨v=2 then 1 else if v=5 then 0 else -1
def lF(v:Int)(i:Int)(p:kZ):Bool:=p.valid && !(decide (named v≤i) && !p.zero)
def eH.fits(s:eH):Bool:=lF s.verb 0 s.a&&(lF s.verb 1 s.b&&lF s.verb 2 s.c)
def eH.stands(last:Int)(s:eH):Bool:=(s.verb==1)||((last != 5)&&((s.verb != 5)||(last != 1)))
def eH.err(last:Int)(s:eH):Int:=if named s.verb<0 then 2 else if s.stands last=false then 10 else if s.fits=false then 6 else 0
def ni:Int→Int→List eH→Int×Int
 | _,_,[]=>(0,0)
 | last,i,s::l=>if s.err last=0 then ni s.verb (i+1) l else (s.err last,i)
def dM(l:List eH):Int×Int:=if 256<(l.length:Int)then (5,256)else ni 5 0 l
def jr(l:List eH):Bool:=(dM l).1==0
structure dO where
 r:UInt8
 g:UInt8
 b:UInt8
 a:UInt8
deriving DecidableEq
def dO.cells(p:dO):List Value:=[RX p.r,RX p.g,RX p.b,RX p.a]
def dO.valid(p:dO):Bool:=decide (p.r≤p.a)&&(decide (p.g≤p.a)&&decide (p.b≤p.a))
structure cO where
 w:Int
 h:Int
 sa:Option Addr
 sc:Nat
 l:List dO
def cO.s(m:cO):Value := .slice m.sa m.l.length m.sc
def cO.cells(m:cO):List Value:=[.i m.w,.i m.h,m.s]
def cO.v(m:cO):Value := .agg #[.i m.w,.i m.h,m.s]
def cO.ok(W:World)(m:cO):Prop:=I64 m.w∧I64 m.h∧aN 4 dO.cells W m.s m.l
theorem cO.ok.below{w w':World}{t:cO}(h:t.ok w)(hb:Ext w w'):t.ok w':=⟨h.1,h.2.1,h.2.2.below hb⟩
def side(n:Int):Bool:=decide (1≤n)&&decide (n≤4096)
def cO.size(m:cO):Bool:=side m.w&&(side m.h&&decide (m.w*m.h≤65536))
def cO.valid(m:cO):Bool:=m.size&&(((m.l.length:Int)==m.w*m.h)&&m.l.all dO.valid)
def cO.eq(m n:cO):Bool:=(m.w==n.w)&&((m.h==n.h)&&(m.l==n.l))
structure gu where
 o:Int
 c:dO
deriving DecidableEq
def gu.cells(s:gu):List Value:=[.i s.o,RX s.c.r,RX s.c.g,RX s.c.b,RX s.c.a]
def gu.ok(s:gu):Prop:=I64 s.o
def dw:Int→List gu→Bool
 | _,[]=>true
 | at',s::l=>decide (at'≤s.o)&&(decide (s.o≤65536)&&dw s.o l)
def fC(l:List gu):Bool:=decide (1≤l.length)&&(decide (l.length≤16)&&dw 0 l)
structure ak where
 kind:Int
 color:dO
 p0:kZ
 p1:kZ
 bD:Int
 sva:Option Addr
 svc:Nat
 stops:List gu
 spread:Int
 img:cO
 bY:Int
 t:aP
def ak.sv(p:ak):Value := .slice p.sva p.stops.length p.svc
def ak.cells(p:ak):List Value:=
 [.i p.kind,RX p.color.r,RX p.color.g,RX p.color.b,RX p.color.a,.i p.p0.x,.i p.p0.y,.i p.p1.x,.i p.p1.y,.i p.bD,p.sv,.i p.spread,
  .i p.img.w,.i p.img.h,p.img.s,.i p.bY]++p.t.cells
def ak.v(p:ak):Value := .agg p.cells.toArray
def ak.ok(w:World)(p:ak):Prop:=
 I64 p.kind∧p.p0.ok∧p.p1.ok∧I64 p.bD∧aN 5 gu.cells w p.sv p.stops∧(∀s∈p.stops,s.ok)∧I64 p.spread∧p.img.ok w∧I64 p.bY∧p.t.ok w
theorem ak.ok.below{w w':World}{p:ak}(h:p.ok w)(hb:Ext w w'):p.ok w':=by
 obtain⟨h1,h2,h3,h4,h5,h6,h7,h8,h9,h10⟩:=h;exact⟨h1,h2,h3,h4,h5.below hb,h6,h7,h8.below hb,h9,h10.below hb⟩
def dO.zero(p:dO):Bool:=(p.r==0)&&((p.g==0)&&((p.b==0)&&(p.a==0)))
def jf(n:Int):Bool:=decide (1≤n)&&decide (n≤3)
def cO.none(m:cO):Bool:=(m.w==0)&&((m.h==0)&&m.l.isEmpty)
structure aW where
 width:Int
 join:Int
 cap:Int
 eF:Int
 sa:Option Addr
 sc:Nat
 dash:List Int
 phase:Int
def aW.s(p:aW):Value := .slice p.sa p.dash.length p.sc
def zG(x:Int):Value := .i x
def aW.cells(p:aW):List Value:=[.i p.width,.i p.join,.i p.cap,.i p.eF,p.s,.i p.phase]
def aW.v(p:aW):Value := .agg #[.i p.width,.i p.join,.i p.cap,.i p.eF,p.s,.i p.phase]
def aW.ok(w:World)(p:aW):Prop:=I64 p.width∧I64 p.join∧I64 p.cap∧I64 p.eF∧fA zG w p.s p.dash∧(∀x∈p.dash,I64 x)∧I64 p.phase
theorem aW.ok.below{w w':World}{p:aW}(h:p.ok w)(hb:Ext w w'):p.ok w':=⟨h.1,h.2.1,h.2.2.1,h.2.2.2.1,h.2.2.2.2.1.below hb,h.2.2.2.2.2⟩
structure aj where
 id:Int
 kind:Int
 depth:Int
 t:aP
 csa:Option Addr
 csc:Nat
 clip:List eH
 aK:Int
 dZ:UInt8
 blend:Int
 isolated:Bool
 dG:Bool
 psa:Option Addr
 psc:Nat
 path:List eH
 aV:Int
 fsa:Option Addr
 fsc:Nat
 fill:List ak
 style:aW
 ssa:Option Addr
 ssc:Nat
 stroke:List ak
 img:cO
 bY:Int
def aj.cs(n:aj):Value := .slice n.csa n.clip.length n.csc
def aj.ps(n:aj):Value := .slice n.psa n.path.length n.psc
def aj.fs(n:aj):Value := .slice n.fsa n.fill.length n.fsc
def aj.ss(n:aj):Value := .slice n.ssa n.stroke.length n.ssc
def aj.cells(n:aj):List Value:=
 [.i n.id,.i n.kind,.i n.depth]++n.t.cells++[n.cs,.i n.aK,RX n.dZ,.i n.blend,.bool n.isolated,.bool n.dG,n.ps,.i n.aV,n.fs]++n.style.cells ++
  [n.ss]++n.img.cells++[.i n.bY]
def aj.v(n:aj):Value := .agg n.cells.toArray
abbrev oU (w:World)(v:Value)(l:List eH):Prop:=aN 7 eH.cells w v l∧∀s∈l,s.ok
abbrev jd (w:World)(v:Value)(l:List ak):Prop:=aN 40 ak.cells w v l∧∀p∈l,p.ok w
def aj.ok(w:World)(n:aj):Prop:=
 I64 n.id∧I64 n.kind∧I64 n.depth∧n.t.ok w∧oU w n.cs n.clip∧I64 n.aK∧I64 n.blend∧oU w n.ps n.path∧I64 n.aV∧jd w n.fs n.fill∧n.style.ok w∧jd w n.ss n.stroke ∧
  n.img.ok w∧I64 n.bY
theorem oU.below{w w':World}{v:Value}{l:List eH}(h:oU w v l)(hb:Ext w w'):oU w' v l:=⟨h.1.below hb,h.2⟩
theorem jd.below{w w':World}{v:Value}{l:List ak}(h:jd w v l)(hb:Ext w w'):jd w' v l:=⟨h.1.below hb,fun p hp=>(h.2 p hp).below hb⟩
theorem aj.ok.below{w w':World}{n:aj}(h:n.ok w)(hb:Ext w w'):n.ok w':=by
 obtain⟨h1,h2,h3,h4,h5,h6,h7,h8,h9,h10,h11,h12,h13,VO⟩:=h;exact⟨h1,h2,h3,h4.below hb,h5.below hb,h6,h7,h8.below hb,h9,h10.below hb,h11.below hb,h12.below hb,h13.below hb,VO⟩
end Go.Proofs.YtfmkkemfhjkajaaGreatDoor
