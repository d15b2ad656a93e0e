/- Plain laws of signed numbers and of rational numbers by value: no program in sight. -/
import Derived.Test.YtiafijffnejhoaaGreatDoorRat
namespace Go.Proofs.YtiafijffnejhoaaGreatDoor
open Go.RowKit
variable{α:Type}
def zv(n:Bool)(a:Nat):Int:=if n then -(a:Int)else (a:Int)
theorem Q7(n:Bool)(a:Nat):decide (zv n a<0)=(n&&decide (0<a)):=by
 unfold zv;cases n
 ·simp
 rw[aiC,decide_eq_decide]; simp
theorem oP(n:Bool)(a:Nat):(zv n a).natAbs=a:=by unfold zv; cases n<;>simp
theorem ZK(n:Bool)(a:Nat):zv (!n) a = -zv n a:=by unfold zv; cases n<;>simp
theorem MC(z:Int):zv (decide (z<0)) z.natAbs=z:=by
 unfold zv;by_cases h:z<0
 ·rw[ah0 h,ahf rfl]; omega
 rw[ail h,ahe (by simp)]; omega
theorem ZL(n m:Bool)(a b:Nat):zv n a*zv m b=zv (n != m) (a*b):=by unfold zv; cases n<;>cases m<;>simp[Int.mul_neg,Int.neg_mul,Int.neg_neg]
theorem Gy(n:Bool)(a b:Nat):zv n a+zv n b=zv n (a+b):=by
 unfold zv;cases n
 ·simp
 simp only[if_true]; omega
theorem yF{n m:Bool}{a b:Nat}(h:n≠m)(hle:b≤a):zv n a+zv m b=zv n (a-b):=by
 unfold zv;cases n<;>cases m<;>simp only[ne_eq,not_true_eq_false,reduceCtorEq,if_true,if_false,Bool.false_eq_true]at * <;> omega
theorem Em{n m:Bool}{a b:Nat}(h:n≠m)(hle:a≤b):zv n a+zv m b=zv m (b-a):=by
 rw[Int.add_comm]; exact yF (fun e=>h e.symm) hle
theorem ZM(n:Bool)(a:Nat):nY n a=(zv n a).sign:=by
 unfold nY zv;rcases ahI a with h | h
 ·subst h; cases n<;>rfl
 rw[ahe (by omega)];cases n
 ·rw[ahe (by simp),ahe (by simp),Int.sign_eq_one_of_pos (by omega)]
 rw[ahf rfl,ahf rfl,Int.sign_eq_neg_one_of_neg (by omega)]
abbrev vU (base:Nat)(w:World)(v:Value)(z:Int):Prop:=aG base w v (decide (z<0)) z.natAbs
theorem zL{base:Nat}{w:World}{v:Value}{n:Bool}{a:Nat}(h:aG base w v (n&&decide (0<a)) a):vU base w v (zv n a):=by
 unfold vU; rw[Q7,oP]; exact h
def nz(x:Int)(d:Nat):Bool×Nat×Nat:=nrm (decide (x<0)) false x.natAbs d
def qz(r:Bool×Nat×Nat):Int:=zv r.1 r.2.1
def rE(r s:Bool×Nat×Nat):Bool×Nat×Nat:=nz (qz r*qz s) (r.2.2*s.2.2)
def aeA(r s:Bool×Nat×Nat):Bool×Nat×Nat:=nz (qz r*s.2.2+qz s*r.2.2) (r.2.2*s.2.2)
def zM(r s:Bool×Nat×Nat):Bool×Nat×Nat:=nz (qz r*s.2.2-qz s*r.2.2) (r.2.2*s.2.2)
def lN(r s:Bool×Nat×Nat):Int:=(qz r*s.2.2-qz s*r.2.2).sign
theorem Ws(n1 n2:Bool)(l m:List UInt32):(Na.aj (nrm n1 n2 (Na.val l) (Na.val m)).2.1).length≤l.length∧(Na.aj (nrm n1 n2 (Na.val l) (Na.val m)).2.2).length≤max 1 m.length:=by
 unfold nrm;split
 ·have h1:(Na.aj 1).length≤1:=Na.bJ (by decide);exact⟨by rw[Na.jV]; simp,by simp only; omega⟩
 have h1:=dJ (aiX (Na.val l) (Nat.gcd (Na.val l) (Na.val m)));have h2:=dJ (aiX (Na.val m) (Nat.gcd (Na.val l) (Na.val m)));have:=aZ l;have:=aZ m;simp only; omega
open Go.RowKit
variable{α:Type}
set_option linter.unusedVariables false
def aK(k:Nat)(f:α→List Value)(w:World)(v:Value)(l:List α):Prop:=
 ∃a cap,v = .slice a l.length cap∧cap≤maxLen ∧
  ((l=[]∧(a=none→cap=0)) ∨
   ∃b o,a=some ⟨b,o,none⟩∧b<w.heap.size∧l.length≤cap∧∀i (h:i<l.length) (j:Nat),j<k→w.cell? ⟨b,o+i*k+j,none⟩=(f l[i])[j]?)
theorem aK.below{k:Nat}{f:α→List Value}{w w':World}{v:Value}{l:List α}(h:aK k f w v l)(hb:Below w.heap.size w w'):aK k f w' v l:=by
 obtain⟨a,cap,hv,hm,h⟩:=h;refine⟨a,cap,hv,hm,?_⟩;rcases h with h | ⟨b,o,ha,hlt,hl,hc⟩
 ·exact .inl h
 exact .inr ⟨b,o,ha,by have:=hb.size; omega,hl,fun i hi j hj=>by rw[hb.cell (p:=⟨b,o+i*k+j,none⟩) hlt]; exact hc i hi j hj⟩
theorem aK.shape{k:Nat}{f:α→List Value}{w:World}{v:Value}{l:List α}(h:aK k f w v l):∃a cap,v = .slice a l.length cap:=by
 obtain⟨a,cap,h,_⟩:=h; exact⟨a,cap,h⟩
theorem aK.len{k:Nat}{f:α→List Value}{w:World}{v:Value}{l:List α}(h:aK k f w v l):l.length≤maxLen:=by
 obtain⟨a,cap,rfl,hm,h⟩:=h;rcases h with ⟨rfl,_⟩ | ⟨b,o,rfl,hb,hl,hc⟩
 ·simp
 omega
theorem jm(k:Nat)(f:α→List Value)(w:World):aK k f w (.slice none 0 0) []:=⟨none,0,rfl,ahk _,.inl ⟨rfl,fun _=>rfl⟩⟩
theorem Dt{k:Nat}{f:α→List Value}{w:World}{v:Value}{l:List α}(h:aK k f w v l)(hp:0<l.length) :
  ∃b o cap,v = .slice (some ⟨b,o,none⟩) l.length cap∧b<w.heap.size∧l.length≤cap∧cap≤maxLen∧∀i (h:i<l.length) (j:Nat),j<k→w.cell? ⟨b,o+i*k+j,none⟩=(f l[i])[j]?:=by
 obtain⟨a,cap,rfl,hm,h⟩:=h;rcases h with ⟨rfl,_⟩ | ⟨b,o,rfl,hb,hl,hc⟩
 ·simp at hp
 exact⟨b,o,cap,rfl,hb,hl,hm,hc⟩
theorem mY{f:α→Value}{w:World}{v:Value}{l:List α}(h:bU f w v l):aK 1 (fun x=>[f x]) w v l:=by
 obtain⟨a,cap,hv,hm,h⟩:=h;refine⟨a,cap,hv,hm,?_⟩;rcases h with h | ⟨b,o,ha,hlt,hl,hc⟩
 ·exact .inl h
 refine .inr ⟨b,o,ha,hlt,hl,fun i hi j hj=>?_⟩;obtain rfl:j=0:=by omega
 simpa using hc i hi
abbrev I64 (x:Int):Prop := -9223372036854775808≤x∧x≤9223372036854775807
structure bD where
 n1:Bool
 a1:Option Addr
 c1:Nat
 l1:List UInt32
 n2:Bool
 a2:Option Addr
 c2:Nat
 l2:List UInt32
def bD.s1(r:bD):Value := .slice r.a1 r.l1.length r.c1
def bD.s2(r:bD):Value := .slice r.a2 r.l2.length r.c2
def bD.cells(r:bD):List Value:=[.bool r.n1,r.s1,.bool r.n2,r.s2]
def bD.v(r:bD):Value := .agg #[.bool r.n1,r.s1,.bool r.n2,r.s2]
def bD.ok(w:World)(r:bD):Prop:=aA w r.s1 r.l1∧aA w r.s2 r.l2
def bD.fit(k:Nat)(r:bD):Prop:=r.l1.length≤k∧r.l2.length≤k
def bD.q(r:bD):Bool×Nat×Nat:=nrm r.n1 r.n2 (Na.val r.l1) (Na.val r.l2)
theorem bD.ok.below{w w':World}{r:bD}(h:r.ok w)(hb:Ext w w'):r.ok w':=⟨h.1.below hb,h.2.below hb⟩
theorem bD.fit.mono{k k':Nat}{r:bD}(h:r.fit k)(hk:k≤k'):r.fit k':=⟨ahC h.1 hk,ahC h.2 hk⟩
structure aU where
 a:bD
 b:bD
 c:bD
 d:bD
 e:bD
 f:bD
def aU.cells(t:aU):List Value:=t.a.cells++t.b.cells++t.c.cells++t.d.cells++t.e.cells++t.f.cells
def aU.v(t:aU):Value := .agg t.cells.toArray
def aU.ok(w:World)(t:aU):Prop:=t.a.ok w∧t.b.ok w∧t.c.ok w∧t.d.ok w∧t.e.ok w∧t.f.ok w
def aU.fit(k:Nat)(t:aU):Prop:=t.a.fit k∧t.b.fit k∧t.c.fit k∧t.d.fit k∧t.e.fit k∧t.f.fit k
theorem aU.ok.below{w w':World}{t:aU}(h:t.ok w)(hb:Ext w w'):t.ok w':=
 ⟨h.1.below hb,h.2.1.below hb,h.2.2.1.below hb,h.2.2.2.1.below hb,h.2.2.2.2.1.below hb,h.2.2.2.2.2.below hb⟩
def dD(q:Bool×Nat×Nat):Nat:=max (bl q.2.1) (bl q.2.2)
def aU.valid(t:aU):Bool:=
 decide (dD t.a.q≤256)&&(decide (dD t.b.q≤256)&&(decide (dD t.c.q≤256)&&(decide (dD t.d.q≤256)&&(decide (dD t.e.q≤256)&&decide (dD t.f.q≤256)))))
def aU.xQ(t:aU):Bool×Nat×Nat:=zM (rE t.a.q t.d.q) (rE t.b.q t.c.q)
def q0:Bool×Nat×Nat:=(false,0,1)
def kT(p q:Bool×Nat×Nat):Bool:=lN p q==0
def aU.eq(t u:aU):Bool:=kT t.a.q u.a.q&&(kT t.b.q u.b.q&&(kT t.c.q u.c.q&&(kT t.d.q u.d.q&&(kT t.e.q u.e.q&&kT t.f.q u.f.q))))
structure kJ where
 x:Int
 y:Int
deriving DecidableEq
def kJ.ok(p:kJ):Prop:=I64 p.x∧I64 p.y
def cok(x:Int):Bool:=decide (-1048576≤x)&&decide (x≤1048576)
def kJ.valid(p:kJ):Bool:=cok p.x&&cok p.y
def kJ.zero(p:kJ):Bool:=(p.x==0)&&(p.y==0)
structure gQ where
 verb:Int
 a:kJ
 b:kJ
 c:kJ
deriving DecidableEq
def gQ.cells(s:gQ):List Value:=[.i s.verb,.i s.a.x,.i s.a.y,.i s.b.x,.i s.b.y,.i s.c.x,.i s.c.y]
def gQ.ok(s:gQ):Prop:=I64 s.verb∧s.a.ok∧s.b.ok∧s.c.ok
def named(v:Int):Int:=if v=4 then 3 else if v=3 then 2 else if v=1∨v=2 then 1 else if v=5 then 0 else -1
def qO(v:Int)(i:Int)(p:kJ):Bool:=p.valid && !(decide (named v≤i) && !p.zero)
def gQ.fits(s:gQ):Bool:=qO s.verb 0 s.a&&(qO s.verb 1 s.b&&qO s.verb 2 s.c)
def gQ.stands(last:Int)(s:gQ):Bool:=(s.verb==1)||((last != 5)&&((s.verb != 5)||(last != 1)))
def gQ.err(last:Int)(s:gQ):Int:=if named s.verb<0 then 2 else if s.stands last=false then 10 else if s.fits=false then 6 else 0
def oz:Int→Int→List gQ→Int×Int
 | _,_,[]=>(0,0)
 | last,i,s::l=>if s.err last=0 then oz s.verb (i+1) l else (s.err last,i)
def eu(l:List gQ):Int×Int:=if 256<(l.length:Int)then (5,256)else oz 5 0 l
def jq(l:List gQ):Bool:=(eu l).1==0
structure aO where
 r:UInt8
 g:UInt8
 b:UInt8
 a:UInt8
deriving DecidableEq
def aO.cells(p:aO):List Value:=[fO p.r,fO p.g,fO p.b,fO p.a]
def aO.valid(p:aO):Bool:=decide (p.r≤p.a)&&(decide (p.g≤p.a)&&decide (p.b≤p.a))
structure dA where
 w:Int
 h:Int
 sa:Option Addr
 sc:Nat
 l:List aO
def dA.s(m:dA):Value := .slice m.sa m.l.length m.sc
def dA.cells(m:dA):List Value:=[.i m.w,.i m.h,m.s]
def dA.v(m:dA):Value := .agg #[.i m.w,.i m.h,m.s]
def dA.ok(W:World)(m:dA):Prop:=I64 m.w∧I64 m.h∧aK 4 aO.cells W m.s m.l
theorem dA.ok.below{w w':World}{t:dA}(h:t.ok w)(hb:Ext w w'):t.ok w':=⟨h.1,h.2.1,h.2.2.below hb⟩
def side(n:Int):Bool:=decide (1≤n)&&decide (n≤4096)
def dA.size(m:dA):Bool:=side m.w&&(side m.h&&decide (m.w*m.h≤65536))
def dA.valid(m:dA):Bool:=m.size&&(((m.l.length:Int)==m.w*m.h)&&m.l.all aO.valid)
def dA.eq(m n:dA):Bool:=(m.w==n.w)&&((m.h==n.h)&&(m.l==n.l))
structure iR where
 o:Int
 c:aO
deriving DecidableEq
def iR.cells(s:iR):List Value:=[.i s.o,fO s.c.r,fO s.c.g,fO s.c.b,fO s.c.a]
def iR.ok(s:iR):Prop:=I64 s.o
def eF:Int→List iR→Bool
 | _,[]=>true
 | at',s::l=>decide (at'≤s.o)&&(decide (s.o≤65536)&&eF s.o l)
def ig(l:List iR):Bool:=decide (1≤l.length)&&(decide (l.length≤16)&&eF 0 l)
structure au where
 kind:Int
 color:aO
 p0:kJ
 p1:kJ
 bK:Int
 sva:Option Addr
 svc:Nat
 stops:List iR
 spread:Int
 img:dA
 dw:Int
 t:aU
def au.sv(p:au):Value := .slice p.sva p.stops.length p.svc
def au.cells(p:au):List Value:=
 [.i p.kind,fO p.color.r,fO p.color.g,fO p.color.b,fO p.color.a,.i p.p0.x,.i p.p0.y,.i p.p1.x,.i p.p1.y,.i p.bK,p.sv,.i p.spread,
  .i p.img.w,.i p.img.h,p.img.s,.i p.dw]++p.t.cells
def au.v(p:au):Value := .agg p.cells.toArray
def au.ok(w:World)(p:au):Prop:=
 I64 p.kind∧p.p0.ok∧p.p1.ok∧I64 p.bK∧aK 5 iR.cells w p.sv p.stops∧(∀s∈p.stops,s.ok)∧I64 p.spread∧p.img.ok w∧I64 p.dw∧p.t.ok w
theorem au.ok.below{w w':World}{p:au}(h:p.ok w)(hb:Ext w w'):p.ok w':=by
 obtain⟨h1,h2,h3,h4,h5,h6,h7,h8,h9,h10⟩:=h;exact⟨h1,h2,h3,h4,h5.below hb,h6,h7,h8.below hb,h9,h10.below hb⟩
def aO.zero(p:aO):Bool:=(p.r==0)&&((p.g==0)&&((p.b==0)&&(p.a==0)))
def iF(n:Int):Bool:=decide (1≤n)&&decide (n≤3)
def dA.none(m:dA):Bool:=(m.w==0)&&((m.h==0)&&m.l.isEmpty)
structure aV where
 width:Int
 join:Int
 cap:Int
 fZ:Int
 sa:Option Addr
 sc:Nat
 dash:List Int
 phase:Int
def aV.s(p:aV):Value := .slice p.sa p.dash.length p.sc
def OA(x:Int):Value := .i x
def aV.cells(p:aV):List Value:=[.i p.width,.i p.join,.i p.cap,.i p.fZ,p.s,.i p.phase]
def aV.v(p:aV):Value := .agg #[.i p.width,.i p.join,.i p.cap,.i p.fZ,p.s,.i p.phase]
def aV.ok(w:World)(p:aV):Prop:=I64 p.width∧I64 p.join∧I64 p.cap∧I64 p.fZ∧bU OA w p.s p.dash∧(∀x∈p.dash,I64 x)∧I64 p.phase
theorem aV.ok.below{w w':World}{p:aV}(h:p.ok w)(hb:Ext w w'):p.ok w':=⟨h.1,h.2.1,h.2.2.1,h.2.2.2.1,h.2.2.2.2.1.below hb,h.2.2.2.2.2⟩
structure aB where
 id:Int
 kind:Int
 depth:Int
 t:aU
 csa:Option Addr
 csc:Nat
 clip:List gQ
 aW:Int
 iq:UInt8
 blend:Int
 isolated:Bool
 fM:Bool
 psa:Option Addr
 psc:Nat
 path:List gQ
 bn:Int
 fsa:Option Addr
 fsc:Nat
 fill:List au
 style:aV
 ssa:Option Addr
 ssc:Nat
 stroke:List au
 img:dA
 dw:Int
def aB.cs(n:aB):Value := .slice n.csa n.clip.length n.csc
def aB.ps(n:aB):Value := .slice n.psa n.path.length n.psc
def aB.fs(n:aB):Value := .slice n.fsa n.fill.length n.fsc
def aB.ss(n:aB):Value := .slice n.ssa n.stroke.length n.ssc
def aB.cells(n:aB):List Value:=
 [.i n.id,.i n.kind,.i n.depth]++n.t.cells++[n.cs,.i n.aW,fO n.iq,.i n.blend,.bool n.isolated,.bool n.fM,n.ps,.i n.bn,n.fs]++n.style.cells ++
  [n.ss]++n.img.cells++[.i n.dw]
def aB.v(n:aB):Value := .agg n.cells.toArray
abbrev rH (w:World)(v:Value)(l:List gQ):Prop:=aK 7 gQ.cells w v l∧∀s∈l,s.ok
abbrev iQ (w:World)(v:Value)(l:List au):Prop:=aK 40 au.cells w v l∧∀p∈l,p.ok w
def aB.ok(w:World)(n:aB):Prop:=
 I64 n.id∧I64 n.kind∧I64 n.depth∧n.t.ok w∧rH w n.cs n.clip∧I64 n.aW∧I64 n.blend∧rH w n.ps n.path∧I64 n.bn∧iQ w n.fs n.fill∧n.style.ok w∧iQ w n.ss n.stroke ∧
  n.img.ok w∧I64 n.dw
theorem rH.below{w w':World}{v:Value}{l:List gQ}(h:rH w v l)(hb:Ext w w'):rH w' v l:=⟨h.1.below hb,h.2⟩
theorem iQ.below{w w':World}{v:Value}{l:List au}(h:iQ w v l)(hb:Ext w w'):iQ w' v l:=⟨h.1.below hb,fun p hp=>(h.2 p hp).below hb⟩
theorem aB.ok.below{w w':World}{n:aB}(h:n.ok w)(hb:Ext w w'):n.ok w':=by
 obtain⟨h1,h2,h3,h4,h5,h6,h7,h8,h9,h10,h11,h12,h13,MF⟩:=h;exact⟨h1,h2,h3,h4.below hb,h5.below hb,h6,h7,h8.below hb,h9,h10.below hb,h11.below hb,h12.below hb,h13.below hb,MF⟩
end Go.Proofs.YtiafijffnejhoaaGreatDoor
