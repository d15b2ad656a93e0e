/- Plain laws of signed numbers and of rational numbers by value: no program in sight. -/
import Derived.Test.YtfmkkemfhjkajaaGreatDoorRat
namespace Go.Proofs.YtfmkkemfhjkajaaGreatDoor
open Go.RowKit
variable{α:Type}
def zv(n:Bool)(a:Nat):Int:=if n then -(a:Int)else (a:Int)
theorem RJ(n:Bool)(a:Nat):decide (zv n a<0)=(n&&decide (0<a)):=by
 unfold zv;cases n
 ·simp
 rw[Bool.true_and,decide_eq_decide]; simp
theorem kY(n:Bool)(a:Nat):(zv n a).natAbs=a:=by unfold zv; cases n<;>simp
theorem RN(n:Bool)(a:Nat):zv (!n) a = -zv n a:=by unfold zv; cases n<;>simp
theorem KX(z:Int):zv (decide (z<0)) z.natAbs=z:=by
 unfold zv;by_cases h:z<0
 ·rw[decide_eq_true h,if_pos rfl]; omega
 rw[decide_eq_false h,if_neg (by simp)]; omega
theorem Zu(n m:Bool)(a b:Nat):zv n a*zv m b=zv (n != m) (a*b):=by unfold zv; cases n<;>cases m<;>simp[Int.mul_neg,Int.neg_mul,Int.neg_neg]
theorem DK(n:Bool)(a b:Nat):zv n a+zv n b=zv n (a+b):=by
 unfold zv;cases n
 ·simp
 simp only[if_true]; omega
theorem xG{n m:Bool}{a b:Nat}(h:n≠m)(hle:b≤a):zv n a+zv m b=zv n (a-b):=by
 unfold zv;cases n<;>cases m<;>simp only[ne_eq,not_true_eq_false,reduceCtorEq,if_true,if_false,Bool.false_eq_true]at * <;> omega
theorem Bg{n m:Bool}{a b:Nat}(h:n≠m)(hle:a≤b):zv n a+zv m b=zv m (b-a):=by
 rw[Int.add_comm]; exact xG (fun e=>h e.symm) hle
theorem Zv(n:Bool)(a:Nat):sZ n a=(zv n a).sign:=by
 unfold sZ zv;rcases Nat.eq_zero_or_pos a with h | h
 ·subst h; cases n<;>rfl
 rw[if_neg (by omega)];cases n
 ·rw[if_neg (by simp),if_neg (by simp),Int.sign_eq_one_of_pos (by omega)]
 rw[if_pos rfl,if_pos rfl,Int.sign_eq_neg_one_of_neg (by omega)]
abbrev oU (base:Nat)(w:World)(v:Value)(z:Int):Prop:=aG base w v (decide (z<0)) z.natAbs
theorem uz{base:Nat}{w:World}{v:Value}{n:Bool}{a:Nat}(h:aG base w v (n&&decide (0<a)) a):oU base w v (zv n a):=by
 unfold oU; rw[RJ,kY]; exact h
def nz(x:Int)(d:Nat):Bool×Nat×Nat:=nrm (decide (x<0)) false x.natAbs d
def qz(r:Bool×Nat×Nat):Int:=zv r.1 r.2.1
def oz(r s:Bool×Nat×Nat):Bool×Nat×Nat:=nz (qz r*qz s) (r.2.2*s.2.2)
def FI(r s:Bool×Nat×Nat):Bool×Nat×Nat:=nz (qz r*s.2.2+qz s*r.2.2) (r.2.2*s.2.2)
def uD(r s:Bool×Nat×Nat):Bool×Nat×Nat:=nz (qz r*s.2.2-qz s*r.2.2) (r.2.2*s.2.2)
def kZ(r s:Bool×Nat×Nat):Int:=(qz r*s.2.2-qz s*r.2.2).sign
def uY(r:Bool×Nat×Nat):Bool×Nat×Nat:=(!r.1&&decide (0<r.2.1),r.2)
theorem aeg(r:Bool×Nat×Nat):qz (uY r) = -qz r:=by
 obtain⟨n,a,b⟩:=r;unfold qz uY zv;cases n
 ·simp only[Bool.not_false,Bool.true_and,decide_eq_true_eq,Bool.false_eq_true,if_false];split<;>omega
 simp
theorem ab9(n1 n2:Bool)(l m:List UInt32):(Na.au (nrm n1 n2 (Na.val l) (Na.val m)).2.1).length≤l.length∧(Na.au (nrm n1 n2 (Na.val l) (Na.val m)).2.2).length≤max 1 m.length:=by
 unfold nrm;split
 ·have h1:(Na.au 1).length≤1:=Na.dO (by decide);exact⟨by rw[Na.ni]; simp,by simp only; omega⟩
 have h1:=fQ (Nat.div_le_self (Na.val l) (Nat.gcd (Na.val l) (Na.val m)));have h2:=fQ (Nat.div_le_self (Na.val m) (Nat.gcd (Na.val l) (Na.val m)));have:=bF l;have:=bF m;simp only; omega
open Go.RowKit
variable{α:Type}
set_option linter.unusedVariables false
def aN(k:Nat)(f:α→List Value)(w:World)(v:Value)(l:List α):Prop:=
 ∃a cap,v = .slice a l.length cap∧cap≤maxLen ∧
  ((l=[]∧(a=none→cap=0)) ∨
   ∃b o,a=some ⟨b,o,none⟩∧b<w.heap.size∧l.length≤cap∧∀i (h:i<l.length) (j:Nat),j<k→w.cell? ⟨b,o+i*k+j,none⟩=(f l[i])[j]?)
theorem aN.below{k:Nat}{f:α→List Value}{w w':World}{v:Value}{l:List α}(h:aN k f w v l)(hb:Below w.heap.size w w'):aN k f w' v l:=by
 obtain⟨a,cap,hv,hm,h⟩:=h;refine⟨a,cap,hv,hm,?_⟩;rcases h with h | ⟨b,o,ha,hlt,hl,hc⟩
 ·exact .inl h
 exact .inr ⟨b,o,ha,by have:=hb.size; omega,hl,fun i hi j hj=>by rw[hb.cell (p:=⟨b,o+i*k+j,none⟩) hlt]; exact hc i hi j hj⟩
theorem aN.shape{k:Nat}{f:α→List Value}{w:World}{v:Value}{l:List α}(h:aN k f w v l):∃a cap,v = .slice a l.length cap:=by
 obtain⟨a,cap,h,_⟩:=h; exact⟨a,cap,h⟩
theorem aN.len{k:Nat}{f:α→List Value}{w:World}{v:Value}{l:List α}(h:aN k f w v l):l.length≤maxLen:=by
 obtain⟨a,cap,rfl,hm,h⟩:=h;rcases h with ⟨rfl,_⟩ | ⟨b,o,rfl,hb,hl,hc⟩
 ·simp
 omega
theorem lZ(k:Nat)(f:α→List Value)(w:World):aN k f w (.slice none 0 0) []:=⟨none,0,rfl,Nat.zero_le _,.inl ⟨rfl,fun _=>rfl⟩⟩
theorem Jv{k:Nat}{f:α→List Value}{w:World}{v:Value}{l:List α}(h:aN k f w v l)(hp:0<l.length) :
  ∃b o cap,v = .slice (some ⟨b,o,none⟩) l.length cap∧b<w.heap.size∧l.length≤cap∧cap≤maxLen∧∀i (h:i<l.length) (j:Nat),j<k→w.cell? ⟨b,o+i*k+j,none⟩=(f l[i])[j]?:=by
 obtain⟨a,cap,rfl,hm,h⟩:=h;rcases h with ⟨rfl,_⟩ | ⟨b,o,rfl,hb,hl,hc⟩
 ·simp at hp
 exact⟨b,o,cap,rfl,hb,hl,hm,hc⟩
theorem dS{f:α→Value}{w:World}{v:Value}{l:List α}(h:dW f w v l):aN 1 (fun x=>[f x]) w v l:=by
 obtain⟨a,cap,hv,hm,h⟩:=h;refine⟨a,cap,hv,hm,?_⟩;rcases h with h | ⟨b,o,ha,hlt,hl,hc⟩
 ·exact .inl h
 refine .inr ⟨b,o,ha,hlt,hl,fun i hi j hj=>?_⟩;obtain rfl:j=0:=by omega
 simpa using hc i hi
abbrev I64 (x:Int):Prop := -9223372036854775808≤x∧x≤9223372036854775807
structure bK where
 n1:Bool
 a1:Option Addr
 c1:Nat
 l1:List UInt32
 n2:Bool
 a2:Option Addr
 c2:Nat
 l2:List UInt32
def bK.s1(r:bK):Value := .slice r.a1 r.l1.length r.c1
def bK.s2(r:bK):Value := .slice r.a2 r.l2.length r.c2
def bK.cells(r:bK):List Value:=[.bool r.n1,r.s1,.bool r.n2,r.s2]
def bK.v(r:bK):Value := .agg #[.bool r.n1,r.s1,.bool r.n2,r.s2]
def bK.ok(w:World)(r:bK):Prop:=aC w r.s1 r.l1∧aC w r.s2 r.l2
def bK.fit(k:Nat)(r:bK):Prop:=r.l1.length≤k∧r.l2.length≤k
def bK.q(r:bK):Bool×Nat×Nat:=nrm r.n1 r.n2 (Na.val r.l1) (Na.val r.l2)
theorem bK.ok.below{w w':World}{r:bK}(h:r.ok w)(hb:Ext w w'):r.ok w':=⟨h.1.below hb,h.2.below hb⟩
theorem bK.fit.mono{k k':Nat}{r:bK}(h:r.fit k)(hk:k≤k'):r.fit k':=⟨Nat.le_trans h.1 hk,Nat.le_trans h.2 hk⟩
structure aS where
 a:bK
 b:bK
 c:bK
 d:bK
 e:bK
 f:bK
def aS.cells(t:aS):List Value:=t.a.cells++t.b.cells++t.c.cells++t.d.cells++t.e.cells++t.f.cells
def aS.v(t:aS):Value := .agg t.cells.toArray
def aS.ok(w:World)(t:aS):Prop:=t.a.ok w∧t.b.ok w∧t.c.ok w∧t.d.ok w∧t.e.ok w∧t.f.ok w
def aS.fit(k:Nat)(t:aS):Prop:=t.a.fit k∧t.b.fit k∧t.c.fit k∧t.d.fit k∧t.e.fit k∧t.f.fit k
theorem aS.ok.below{w w':World}{t:aS}(h:t.ok w)(hb:Ext w w'):t.ok w':=
 ⟨h.1.below hb,h.2.1.below hb,h.2.2.1.below hb,h.2.2.2.1.below hb,h.2.2.2.2.1.below hb,h.2.2.2.2.2.below hb⟩
def bG(q:Bool×Nat×Nat):Nat:=max (bl q.2.1) (bl q.2.2)
def aS.valid(t:aS):Bool:=
 decide (bG t.a.q≤256)&&(decide (bG t.b.q≤256)&&(decide (bG t.c.q≤256)&&(decide (bG t.d.q≤256)&&(decide (bG t.e.q≤256)&&decide (bG t.f.q≤256)))))
def aS.wU(t:aS):Bool×Nat×Nat:=uD (oz t.a.q t.d.q) (oz t.b.q t.c.q)
def q0:Bool×Nat×Nat:=(false,0,1)
def oL(p q:Bool×Nat×Nat):Bool:=kZ p q==0
def aS.eq(t u:aS):Bool:=oL t.a.q u.a.q&&(oL t.b.q u.b.q&&(oL t.c.q u.c.q&&(oL t.d.q u.d.q&&(oL t.e.q u.e.q&&oL t.f.q u.f.q))))
structure kU where
 x:Int
 y:Int
deriving DecidableEq
def kU.ok(p:kU):Prop:=I64 p.x∧I64 p.y
def cok(x:Int):Bool:=decide (-1048576≤x)&&decide (x≤1048576)
def kU.valid(p:kU):Bool:=cok p.x&&cok p.y
def kU.zero(p:kU):Bool:=(p.x==0)&&(p.y==0)
structure eG where
 verb:Int
 a:kU
 b:kU
 c:kU
deriving DecidableEq
def eG.cells(s:eG):List Value:=[.i s.verb,.i s.a.x,.i s.a.y,.i s.b.x,.i s.b.y,.i s.c.x,.i s.c.y]
def eG.ok(s:eG):Prop:=I64 s.verb∧s.a.ok∧s.b.ok∧s.c.ok
def named(v:Int):Int:=if v=4 then 3 else if v=3 then 2 else if v=1∨v=2 then 1 else if v=5 then 0 else -1
def lg(v:Int)(i:Int)(p:kU):Bool:=p.valid && !(decide (named v≤i) && !p.zero)
def eG.fits(s:eG):Bool:=lg s.verb 0 s.a&&(lg s.verb 1 s.b&&lg s.verb 2 s.c)
def eG.stands(last:Int)(s:eG):Bool:=(s.verb==1)||((last != 5)&&((s.verb != 5)||(last != 1)))
def eG.err(last:Int)(s:eG):Int:=if named s.verb<0 then 2 else if s.stands last=false then 10 else if s.fits=false then 6 else 0
def mD:Int→Int→List eG→Int×Int
 | _,_,[]=>(0,0)
 | last,i,s::l=>if s.err last=0 then mD s.verb (i+1) l else (s.err last,i)
def dK(l:List eG):Int×Int:=if 256<(l.length:Int)then (5,256)else mD 5 0 l
def jf(l:List eG):Bool:=(dK l).1==0
structure bY where
 r:UInt8
 g:UInt8
 b:UInt8
 a:UInt8
deriving DecidableEq
def bY.cells(p:bY):List Value:=[QS p.r,QS p.g,QS p.b,QS p.a]
def bY.valid(p:bY):Bool:=decide (p.r≤p.a)&&(decide (p.g≤p.a)&&decide (p.b≤p.a))
structure bZ where
 w:Int
 h:Int
 sa:Option Addr
 sc:Nat
 l:List bY
def bZ.s(m:bZ):Value := .slice m.sa m.l.length m.sc
def bZ.cells(m:bZ):List Value:=[.i m.w,.i m.h,m.s]
def bZ.v(m:bZ):Value := .agg #[.i m.w,.i m.h,m.s]
def bZ.ok(W:World)(m:bZ):Prop:=I64 m.w∧I64 m.h∧aN 4 bY.cells W m.s m.l
theorem bZ.ok.below{w w':World}{t:bZ}(h:t.ok w)(hb:Ext w w'):t.ok w':=⟨h.1,h.2.1,h.2.2.below hb⟩
def side(n:Int):Bool:=decide (1≤n)&&decide (n≤4096)
def bZ.size(m:bZ):Bool:=side m.w&&(side m.h&&decide (m.w*m.h≤65536))
def bZ.valid(m:bZ):Bool:=m.size&&(((m.l.length:Int)==m.w*m.h)&&m.l.all bY.valid)
def bZ.eq(m n:bZ):Bool:=(m.w==n.w)&&((m.h==n.h)&&(m.l==n.l))
structure fZ where
 o:Int
 c:bY
deriving DecidableEq
def fZ.cells(s:fZ):List Value:=[.i s.o,QS s.c.r,QS s.c.g,QS s.c.b,QS s.c.a]
def fZ.ok(s:fZ):Prop:=I64 s.o
def cZ:Int→List fZ→Bool
 | _,[]=>true
 | at',s::l=>decide (at'≤s.o)&&(decide (s.o≤65536)&&cZ s.o l)
def eP(l:List fZ):Bool:=decide (1≤l.length)&&(decide (l.length≤16)&&cZ 0 l)
structure ak where
 kind:Int
 color:bY
 p0:kU
 p1:kU
 bC:Int
 sva:Option Addr
 svc:Nat
 stops:List fZ
 spread:Int
 img:bZ
 bQ:Int
 t:aS
def ak.sv(p:ak):Value := .slice p.sva p.stops.length p.svc
def ak.cells(p:ak):List Value:=
 [.i p.kind,QS p.color.r,QS p.color.g,QS p.color.b,QS p.color.a,.i p.p0.x,.i p.p0.y,.i p.p1.x,.i p.p1.y,.i p.bC,p.sv,.i p.spread,
  .i p.img.w,.i p.img.h,p.img.s,.i p.bQ]++p.t.cells
def ak.v(p:ak):Value := .agg p.cells.toArray
def ak.ok(w:World)(p:ak):Prop:=
 I64 p.kind∧p.p0.ok∧p.p1.ok∧I64 p.bC∧aN 5 fZ.cells w p.sv p.stops∧(∀s∈p.stops,s.ok)∧I64 p.spread∧p.img.ok w∧I64 p.bQ∧p.t.ok w
theorem ak.ok.below{w w':World}{p:ak}(h:p.ok w)(hb:Ext w w'):p.ok w':=by
 obtain⟨h1,h2,h3,h4,h5,h6,h7,h8,h9,h10⟩:=h;exact⟨h1,h2,h3,h4,h5.below hb,h6,h7,h8.below hb,h9,h10.below hb⟩
def bY.zero(p:bY):Bool:=(p.r==0)&&((p.g==0)&&((p.b==0)&&(p.a==0)))
def iW(n:Int):Bool:=decide (1≤n)&&decide (n≤3)
def bZ.none(m:bZ):Bool:=(m.w==0)&&((m.h==0)&&m.l.isEmpty)
structure aY where
 width:Int
 join:Int
 cap:Int
 eu:Int
 sa:Option Addr
 sc:Nat
 dash:List Int
 phase:Int
def aY.s(p:aY):Value := .slice p.sa p.dash.length p.sc
def zn(x:Int):Value := .i x
def aY.cells(p:aY):List Value:=[.i p.width,.i p.join,.i p.cap,.i p.eu,p.s,.i p.phase]
def aY.v(p:aY):Value := .agg #[.i p.width,.i p.join,.i p.cap,.i p.eu,p.s,.i p.phase]
def aY.ok(w:World)(p:aY):Prop:=I64 p.width∧I64 p.join∧I64 p.cap∧I64 p.eu∧dW zn w p.s p.dash∧(∀x∈p.dash,I64 x)∧I64 p.phase
theorem aY.ok.below{w w':World}{p:aY}(h:p.ok w)(hb:Ext w w'):p.ok w':=⟨h.1,h.2.1,h.2.2.1,h.2.2.2.1,h.2.2.2.2.1.below hb,h.2.2.2.2.2⟩
structure aj where
 id:Int
 kind:Int
 depth:Int
 t:aS
 csa:Option Addr
 csc:Nat
 clip:List eG
 aK:Int
 dH:UInt8
 blend:Int
 isolated:Bool
 bM:Bool
 psa:Option Addr
 psc:Nat
 path:List eG
 aQ:Int
 fsa:Option Addr
 fsc:Nat
 fill:List ak
 style:aY
 ssa:Option Addr
 ssc:Nat
 stroke:List ak
 img:bZ
 bQ:Int
def aj.cs(n:aj):Value := .slice n.csa n.clip.length n.csc
def aj.ps(n:aj):Value := .slice n.psa n.path.length n.psc
def aj.fs(n:aj):Value := .slice n.fsa n.fill.length n.fsc
def aj.ss(n:aj):Value := .slice n.ssa n.stroke.length n.ssc
def aj.cells(n:aj):List Value:=
 [.i n.id,.i n.kind,.i n.depth]++n.t.cells++[n.cs,.i n.aK,QS n.dH,.i n.blend,.bool n.isolated,.bool n.bM,n.ps,.i n.aQ,n.fs]++n.style.cells ++
  [n.ss]++n.img.cells++[.i n.bQ]
def aj.v(n:aj):Value := .agg n.cells.toArray
abbrev og (w:World)(v:Value)(l:List eG):Prop:=aN 7 eG.cells w v l∧∀s∈l,s.ok
abbrev iU (w:World)(v:Value)(l:List ak):Prop:=aN 40 ak.cells w v l∧∀p∈l,p.ok w
def aj.ok(w:World)(n:aj):Prop:=
 I64 n.id∧I64 n.kind∧I64 n.depth∧n.t.ok w∧og w n.cs n.clip∧I64 n.aK∧I64 n.blend∧og w n.ps n.path∧I64 n.aQ∧iU w n.fs n.fill∧n.style.ok w∧iU w n.ss n.stroke ∧
  n.img.ok w∧I64 n.bQ
theorem og.below{w w':World}{v:Value}{l:List eG}(h:og w v l)(hb:Ext w w'):og w' v l:=⟨h.1.below hb,h.2⟩
theorem iU.below{w w':World}{v:Value}{l:List ak}(h:iU w v l)(hb:Ext w w'):iU w' v l:=⟨h.1.below hb,fun p hp=>(h.2 p hp).below hb⟩
theorem aj.ok.below{w w':World}{n:aj}(h:n.ok w)(hb:Ext w w'):n.ok w':=by
 obtain⟨h1,h2,h3,h4,h5,h6,h7,h8,h9,h10,h11,h12,h13,QL⟩:=h;exact⟨h1,h2,h3,h4.below hb,h5.below hb,h6,h7,h8.below hb,h9,h10.below hb,h11.below hb,h12.below hb,h13.below hb,QL⟩
end Go.Proofs.YtfmkkemfhjkajaaGreatDoor
