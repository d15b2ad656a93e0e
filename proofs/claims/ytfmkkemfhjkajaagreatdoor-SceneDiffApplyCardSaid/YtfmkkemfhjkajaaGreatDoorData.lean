/- Plain laws of signed numbers and of rational numbers by value: no program in sight. -/
import Derived.Test.YtfmkkemfhjkajaaGreatDoorRat
namespace Go.Proofs.YtfmkkemfhjkajaaGreatDoor
open Go.RowKit
variable{α:Type}
/-- The integer of a sign and a size. -/
def zv(n:Bool)(a:Nat):Int:=if n then -(a:Int)else (a:Int)
theorem zv_neg(n:Bool)(a:Nat):decide (zv n a<0)=(n&&decide (0<a)):=by
 unfold zv
 cases n
 ·simp
 ·rw[Bool.true_and,decide_eq_decide]; simp
theorem zv_abs(n:Bool)(a:Nat):(zv n a).natAbs=a:=by unfold zv; cases n<;>simp
theorem zv_not(n:Bool)(a:Nat):zv (!n) a = -zv n a:=by unfold zv; cases n<;>simp
theorem zv_self(z:Int):zv (decide (z<0)) z.natAbs=z:=by
 unfold zv
 by_cases h:z<0
 ·rw[decide_eq_true h,if_pos rfl]; omega
 ·rw[decide_eq_false h,if_neg (by simp)]; omega
theorem zv_mul(n m:Bool)(a b:Nat):zv n a*zv m b=zv (n != m) (a*b):=by unfold zv; cases n<;>cases m<;>simp[Int.mul_neg,Int.neg_mul,Int.neg_neg]
theorem zv_add_same(n:Bool)(a b:Nat):zv n a+zv n b=zv n (a+b):=by
 unfold zv
 cases n
 ·simp
 ·simp only[if_true]; omega
theorem zv_add_left{n m:Bool}{a b:Nat}(h:n≠m)(hle:b≤a):zv n a+zv m b=zv n (a-b):=by
 unfold zv
 cases n<;>cases m<;>simp only[ne_eq,not_true_eq_false,reduceCtorEq,if_true,if_false,Bool.false_eq_true]at * <;> omega
theorem zv_add_right{n m:Bool}{a b:Nat}(h:n≠m)(hle:a≤b):zv n a+zv m b=zv m (b-a):=by
 rw[Int.add_comm]; exact zv_add_left (fun e=>h e.symm) hle
theorem sgn_zv(n:Bool)(a:Nat):sgn n a=(zv n a).sign:=by
 unfold sgn zv
 rcases Nat.eq_zero_or_pos a with h | h
 ·subst h; cases n<;>rfl
 ·rw[if_neg (by omega)]
  cases n
  ·rw[if_neg (by simp),if_neg (by simp),Int.sign_eq_one_of_pos (by omega)]
  ·rw[if_pos rfl,if_pos rfl,Int.sign_eq_neg_one_of_neg (by omega)]
/-- The integer z by value; its digits lie from block base on. -/
abbrev IsZ (base:Nat)(w:World)(v:Value)(z:Int):Prop:=IsIntN base w v (decide (z<0)) z.natAbs
theorem isZ_of{base:Nat}{w:World}{v:Value}{n:Bool}{a:Nat}(h:IsIntN base w v (n&&decide (0<a)) a):IsZ base w v (zv n a):=by
 unfold IsZ; rw[zv_neg,zv_abs]; exact h
/-- The normal form of x/d. -/
def nz(x:Int)(d:Nat):Bool×Nat×Nat:=nrm (decide (x<0)) false x.natAbs d
/-- The numerator of a normal form. -/
def qz(r:Bool×Nat×Nat):Int:=zv r.1 r.2.1
def qmul(r s:Bool×Nat×Nat):Bool×Nat×Nat:=nz (qz r*qz s) (r.2.2*s.2.2)
def qadd(r s:Bool×Nat×Nat):Bool×Nat×Nat:=nz (qz r*s.2.2+qz s*r.2.2) (r.2.2*s.2.2)
def qsub(r s:Bool×Nat×Nat):Bool×Nat×Nat:=nz (qz r*s.2.2-qz s*r.2.2) (r.2.2*s.2.2)
def qcmp(r s:Bool×Nat×Nat):Int:=(qz r*s.2.2-qz s*r.2.2).sign
theorem nrm_len(n1 n2:Bool)(l m:List UInt32):(Na.digs (nrm n1 n2 (Na.val l) (Na.val m)).2.1).length≤l.length∧(Na.digs (nrm n1 n2 (Na.val l) (Na.val m)).2.2).length≤max 1 m.length:=by
 unfold nrm
 split
 ·have h1:(Na.digs 1).length≤1:=Na.digs_length_le (by decide)
  exact⟨by rw[Na.digs_zero]; simp,by simp only; omega⟩
 ·have h1:=digs_len_le (Nat.div_le_self (Na.val l) (Nat.gcd (Na.val l) (Na.val m)))
  have h2:=digs_len_le (Nat.div_le_self (Na.val m) (Nat.gcd (Na.val l) (Na.val m)))
  have:=digs_len l
  have:=digs_len m
  simp only; omega
end Go.Proofs.YtfmkkemfhjkajaaGreatDoor
/- The data of transforms, paths, paints and nodes as lists of cells, and what is valid of them. No program in sight. -/
namespace Go.Proofs.YtfmkkemfhjkajaaGreatDoor
open Go.RowKit
variable{α:Type}
set_option linter.unusedVariables false
/-- The slice value v reads in the world w as the list l, k cells an element. -/
def IsRowN(k:Nat)(f:α→List Value)(w:World)(v:Value)(l:List α):Prop:=
 ∃a cap,v = .slice a l.length cap∧cap≤maxLen ∧
  ((l=[]∧(a=none→cap=0)) ∨
   ∃b o,a=some ⟨b,o,none⟩∧b<w.heap.size∧l.length≤cap∧∀i (h:i<l.length) (j:Nat),j<k→w.cell? ⟨b,o+i*k+j,none⟩=(f l[i])[j]?)
theorem IsRowN.below{k:Nat}{f:α→List Value}{w w':World}{v:Value}{l:List α}(h:IsRowN k f w v l)(hb:Below w.heap.size w w'):IsRowN k f w' v l:=by
 obtain⟨a,cap,hv,hm,h⟩:=h
 refine⟨a,cap,hv,hm,?_⟩
 rcases h with h | ⟨b,o,ha,hlt,hl,hc⟩
 ·exact .inl h
 ·exact .inr ⟨b,o,ha,by have:=hb.size; omega,hl,fun i hi j hj=>by rw[hb.cell (p:=⟨b,o+i*k+j,none⟩) hlt]; exact hc i hi j hj⟩
theorem IsRowN.shape{k:Nat}{f:α→List Value}{w:World}{v:Value}{l:List α}(h:IsRowN k f w v l):∃a cap,v = .slice a l.length cap:=by
 obtain⟨a,cap,h,_⟩:=h; exact⟨a,cap,h⟩
theorem IsRowN.len{k:Nat}{f:α→List Value}{w:World}{v:Value}{l:List α}(h:IsRowN k f w v l):l.length≤maxLen:=by
 obtain⟨a,cap,rfl,hm,h⟩:=h
 rcases h with ⟨rfl,_⟩ | ⟨b,o,rfl,hb,hl,hc⟩
 ·simp
 ·omega
theorem rowN_nil(k:Nat)(f:α→List Value)(w:World):IsRowN k f w (.slice none 0 0) []:=⟨none,0,rfl,Nat.zero_le _,.inl ⟨rfl,fun _=>rfl⟩⟩
theorem rowN_some{k:Nat}{f:α→List Value}{w:World}{v:Value}{l:List α}(h:IsRowN k f w v l)(hp:0<l.length) :
  ∃b o cap,v = .slice (some ⟨b,o,none⟩) l.length cap∧b<w.heap.size∧l.length≤cap∧cap≤maxLen∧∀i (h:i<l.length) (j:Nat),j<k→w.cell? ⟨b,o+i*k+j,none⟩=(f l[i])[j]?:=by
 obtain⟨a,cap,rfl,hm,h⟩:=h
 rcases h with ⟨rfl,_⟩ | ⟨b,o,rfl,hb,hl,hc⟩
 ·simp at hp
 ·exact⟨b,o,cap,rfl,hb,hl,hm,hc⟩
theorem rowN_one{f:α→Value}{w:World}{v:Value}{l:List α}(h:IsRowOf f w v l):IsRowN 1 (fun x=>[f x]) w v l:=by
 obtain⟨a,cap,hv,hm,h⟩:=h
 refine⟨a,cap,hv,hm,?_⟩
 rcases h with h | ⟨b,o,ha,hlt,hl,hc⟩
 ·exact .inl h
 ·refine .inr ⟨b,o,ha,hlt,hl,fun i hi j hj=>?_⟩
  obtain rfl:j=0:=by omega
  simpa using hc i hi
/-- A machine integer. -/
abbrev I64 (x:Int):Prop := -9223372036854775808≤x∧x≤9223372036854775807
/-- A rational number as it came in. -/
structure RatD where
 n1:Bool
 a1:Option Addr
 c1:Nat
 l1:List UInt32
 n2:Bool
 a2:Option Addr
 c2:Nat
 l2:List UInt32
def RatD.s1(r:RatD):Value := .slice r.a1 r.l1.length r.c1
def RatD.s2(r:RatD):Value := .slice r.a2 r.l2.length r.c2
def RatD.cells(r:RatD):List Value:=[.bool r.n1,r.s1,.bool r.n2,r.s2]
def RatD.v(r:RatD):Value := .agg #[.bool r.n1,r.s1,.bool r.n2,r.s2]
def RatD.ok(w:World)(r:RatD):Prop:=IsU32s w r.s1 r.l1∧IsU32s w r.s2 r.l2
def RatD.fit(k:Nat)(r:RatD):Prop:=r.l1.length≤k∧r.l2.length≤k
/-- Its value: the normal form. -/
def RatD.q(r:RatD):Bool×Nat×Nat:=nrm r.n1 r.n2 (Na.val r.l1) (Na.val r.l2)
theorem RatD.ok.below{w w':World}{r:RatD}(h:r.ok w)(hb:Ext w w'):r.ok w':=⟨h.1.below hb,h.2.below hb⟩
theorem RatD.fit.mono{k k':Nat}{r:RatD}(h:r.fit k)(hk:k≤k'):r.fit k':=⟨Nat.le_trans h.1 hk,Nat.le_trans h.2 hk⟩
structure AffD where
 a:RatD
 b:RatD
 c:RatD
 d:RatD
 e:RatD
 f:RatD
def AffD.cells(t:AffD):List Value:=t.a.cells++t.b.cells++t.c.cells++t.d.cells++t.e.cells++t.f.cells
def AffD.v(t:AffD):Value := .agg t.cells.toArray
def AffD.ok(w:World)(t:AffD):Prop:=t.a.ok w∧t.b.ok w∧t.c.ok w∧t.d.ok w∧t.e.ok w∧t.f.ok w
def AffD.fit(k:Nat)(t:AffD):Prop:=t.a.fit k∧t.b.fit k∧t.c.fit k∧t.d.fit k∧t.e.fit k∧t.f.fit k
theorem AffD.ok.below{w w':World}{t:AffD}(h:t.ok w)(hb:Ext w w'):t.ok w':=
 ⟨h.1.below hb,h.2.1.below hb,h.2.2.1.below hb,h.2.2.2.1.below hb,h.2.2.2.2.1.below hb,h.2.2.2.2.2.below hb⟩
/-- The bits of a rational number in normal form. -/
def qbits(q:Bool×Nat×Nat):Nat:=max (bl q.2.1) (bl q.2.2)
def AffD.valid(t:AffD):Bool:=
 decide (qbits t.a.q≤256)&&(decide (qbits t.b.q≤256)&&(decide (qbits t.c.q≤256)&&(decide (qbits t.d.q≤256)&&(decide (qbits t.e.q≤256)&&decide (qbits t.f.q≤256)))))
def AffD.det(t:AffD):Bool×Nat×Nat:=qsub (qmul t.a.q t.d.q) (qmul t.b.q t.c.q)
def q0:Bool×Nat×Nat:=(false,0,1)
def qeq(p q:Bool×Nat×Nat):Bool:=qcmp p q==0
def AffD.eq(t u:AffD):Bool:=qeq t.a.q u.a.q&&(qeq t.b.q u.b.q&&(qeq t.c.q u.c.q&&(qeq t.d.q u.d.q&&(qeq t.e.q u.e.q&&qeq t.f.q u.f.q))))
structure PtD where
 x:Int
 y:Int
deriving DecidableEq
def PtD.ok(p:PtD):Prop:=I64 p.x∧I64 p.y
/-- A coordinate in range. -/
def cok(x:Int):Bool:=decide (-1048576≤x)&&decide (x≤1048576)
def PtD.valid(p:PtD):Bool:=cok p.x&&cok p.y
def PtD.zero(p:PtD):Bool:=(p.x==0)&&(p.y==0)
structure SegD where
 verb:Int
 a:PtD
 b:PtD
 c:PtD
deriving DecidableEq
def SegD.cells(s:SegD):List Value:=[.int .i64 s.verb,.int .i64 s.a.x,.int .i64 s.a.y,.int .i64 s.b.x,.int .i64 s.b.y,.int .i64 s.c.x,.int .i64 s.c.y]
def SegD.ok(s:SegD):Prop:=I64 s.verb∧s.a.ok∧s.b.ok∧s.c.ok
/-- The number of points of a verb; -1 where there is no such verb. -/
def named(v:Int):Int:=if v=4 then 3 else if v=3 then 2 else if v=1∨v=2 then 1 else if v=5 then 0 else -1
def fitAt(v:Int)(i:Int)(p:PtD):Bool:=p.valid && !(decide (named v≤i) && !p.zero)
def SegD.fits(s:SegD):Bool:=fitAt s.verb 0 s.a&&(fitAt s.verb 1 s.b&&fitAt s.verb 2 s.c)
def SegD.stands(last:Int)(s:SegD):Bool:=(s.verb==1)||((last != 5)&&((s.verb != 5)||(last != 1)))
def SegD.err(last:Int)(s:SegD):Int:=if named s.verb<0 then 2 else if s.stands last=false then 10 else if s.fits=false then 6 else 0
/-- The first error of a path behind the verb last, and its place. -/
def pathErr:Int→Int→List SegD→Int×Int
 | _,_,[]=>(0,0)
 | last,i,s::l=>if s.err last=0 then pathErr s.verb (i+1) l else (s.err last,i)
def pathCheck(l:List SegD):Int×Int:=if 256<(l.length:Int)then (5,256)else pathErr 5 0 l
def pathOk(l:List SegD):Bool:=(pathCheck l).1==0
structure PixD where
 r:UInt8
 g:UInt8
 b:UInt8
 a:UInt8
deriving DecidableEq
def PixD.cells(p:PixD):List Value:=[u8v p.r,u8v p.g,u8v p.b,u8v p.a]
def PixD.valid(p:PixD):Bool:=decide (p.r≤p.a)&&(decide (p.g≤p.a)&&decide (p.b≤p.a))
structure ImgD where
 w:Int
 h:Int
 sa:Option Addr
 sc:Nat
 l:List PixD
def ImgD.s(m:ImgD):Value := .slice m.sa m.l.length m.sc
def ImgD.cells(m:ImgD):List Value:=[.int .i64 m.w,.int .i64 m.h,m.s]
def ImgD.v(m:ImgD):Value := .agg #[.int .i64 m.w,.int .i64 m.h,m.s]
def ImgD.ok(W:World)(m:ImgD):Prop:=I64 m.w∧I64 m.h∧IsRowN 4 PixD.cells W m.s m.l
theorem ImgD.ok.below{w w':World}{t:ImgD}(h:t.ok w)(hb:Ext w w'):t.ok w':=⟨h.1,h.2.1,h.2.2.below hb⟩
def side(n:Int):Bool:=decide (1≤n)&&decide (n≤4096)
def ImgD.size(m:ImgD):Bool:=side m.w&&(side m.h&&decide (m.w*m.h≤65536))
def ImgD.valid(m:ImgD):Bool:=m.size&&(((m.l.length:Int)==m.w*m.h)&&m.l.all PixD.valid)
def ImgD.eq(m n:ImgD):Bool:=(m.w==n.w)&&((m.h==n.h)&&(m.l==n.l))
structure StopD where
 o:Int
 c:PixD
deriving DecidableEq
def StopD.cells(s:StopD):List Value:=[.int .i64 s.o,u8v s.c.r,u8v s.c.g,u8v s.c.b,u8v s.c.a]
def StopD.ok(s:StopD):Prop:=I64 s.o
def stopsFrom:Int→List StopD→Bool
 | _,[]=>true
 | at',s::l=>decide (at'≤s.o)&&(decide (s.o≤65536)&&stopsFrom s.o l)
def stopsOk(l:List StopD):Bool:=decide (1≤l.length)&&(decide (l.length≤16)&&stopsFrom 0 l)
structure PaintD where
 kind:Int
 color:PixD
 p0:PtD
 p1:PtD
 radius:Int
 sva:Option Addr
 svc:Nat
 stops:List StopD
 spread:Int
 img:ImgD
 samp:Int
 t:AffD
def PaintD.sv(p:PaintD):Value := .slice p.sva p.stops.length p.svc
def PaintD.cells(p:PaintD):List Value:=
 [.int .i64 p.kind,u8v p.color.r,u8v p.color.g,u8v p.color.b,u8v p.color.a,.int .i64 p.p0.x,.int .i64 p.p0.y,.int .i64 p.p1.x,.int .i64 p.p1.y,.int .i64 p.radius,p.sv,.int .i64 p.spread,
  .int .i64 p.img.w,.int .i64 p.img.h,p.img.s,.int .i64 p.samp]++p.t.cells
def PaintD.v(p:PaintD):Value := .agg p.cells.toArray
def PaintD.ok(w:World)(p:PaintD):Prop:=
 I64 p.kind∧p.p0.ok∧p.p1.ok∧I64 p.radius∧IsRowN 5 StopD.cells w p.sv p.stops∧(∀s∈p.stops,s.ok)∧I64 p.spread∧p.img.ok w∧I64 p.samp∧p.t.ok w
theorem PaintD.ok.below{w w':World}{p:PaintD}(h:p.ok w)(hb:Ext w w'):p.ok w':=by
 obtain⟨h1,h2,h3,h4,h5,h6,h7,h8,h9,h10⟩:=h
 exact⟨h1,h2,h3,h4,h5.below hb,h6,h7,h8.below hb,h9,h10.below hb⟩
def PixD.zero(p:PixD):Bool:=(p.r==0)&&((p.g==0)&&((p.b==0)&&(p.a==0)))
def spreadOk(n:Int):Bool:=decide (1≤n)&&decide (n≤3)
def ImgD.none(m:ImgD):Bool:=(m.w==0)&&((m.h==0)&&m.l.isEmpty)
structure StyleD where
 width:Int
 join:Int
 cap:Int
 miter:Int
 sa:Option Addr
 sc:Nat
 dash:List Int
 phase:Int
def StyleD.s(p:StyleD):Value := .slice p.sa p.dash.length p.sc
def i64v(x:Int):Value := .int .i64 x
def StyleD.cells(p:StyleD):List Value:=[.int .i64 p.width,.int .i64 p.join,.int .i64 p.cap,.int .i64 p.miter,p.s,.int .i64 p.phase]
def StyleD.v(p:StyleD):Value := .agg #[.int .i64 p.width,.int .i64 p.join,.int .i64 p.cap,.int .i64 p.miter,p.s,.int .i64 p.phase]
def StyleD.ok(w:World)(p:StyleD):Prop:=I64 p.width∧I64 p.join∧I64 p.cap∧I64 p.miter∧IsRowOf i64v w p.s p.dash∧(∀x∈p.dash,I64 x)∧I64 p.phase
theorem StyleD.ok.below{w w':World}{p:StyleD}(h:p.ok w)(hb:Ext w w'):p.ok w':=⟨h.1,h.2.1,h.2.2.1,h.2.2.2.1,h.2.2.2.2.1.below hb,h.2.2.2.2.2⟩
structure NodeD where
 id:Int
 kind:Int
 depth:Int
 t:AffD
 csa:Option Addr
 csc:Nat
 clip:List SegD
 clipRule:Int
 opacity:UInt8
 blend:Int
 isolated:Bool
 knockout:Bool
 psa:Option Addr
 psc:Nat
 path:List SegD
 fillRule:Int
 fsa:Option Addr
 fsc:Nat
 fill:List PaintD
 style:StyleD
 ssa:Option Addr
 ssc:Nat
 stroke:List PaintD
 img:ImgD
 samp:Int
def NodeD.cs(n:NodeD):Value := .slice n.csa n.clip.length n.csc
def NodeD.ps(n:NodeD):Value := .slice n.psa n.path.length n.psc
def NodeD.fs(n:NodeD):Value := .slice n.fsa n.fill.length n.fsc
def NodeD.ss(n:NodeD):Value := .slice n.ssa n.stroke.length n.ssc
def NodeD.cells(n:NodeD):List Value:=
 [.int .i64 n.id,.int .i64 n.kind,.int .i64 n.depth]++n.t.cells++[n.cs,.int .i64 n.clipRule,u8v n.opacity,.int .i64 n.blend,.bool n.isolated,.bool n.knockout,n.ps,.int .i64 n.fillRule,n.fs]++n.style.cells ++
  [n.ss]++n.img.cells++[.int .i64 n.samp]
def NodeD.v(n:NodeD):Value := .agg n.cells.toArray
abbrev IsSegs (w:World)(v:Value)(l:List SegD):Prop:=IsRowN 7 SegD.cells w v l∧∀s∈l,s.ok
abbrev IsPaints (w:World)(v:Value)(l:List PaintD):Prop:=IsRowN 40 PaintD.cells w v l∧∀p∈l,p.ok w
def NodeD.ok(w:World)(n:NodeD):Prop:=
 I64 n.id∧I64 n.kind∧I64 n.depth∧n.t.ok w∧IsSegs w n.cs n.clip∧I64 n.clipRule∧I64 n.blend∧IsSegs w n.ps n.path∧I64 n.fillRule∧IsPaints w n.fs n.fill∧n.style.ok w∧IsPaints w n.ss n.stroke ∧
  n.img.ok w∧I64 n.samp
theorem IsSegs.below{w w':World}{v:Value}{l:List SegD}(h:IsSegs w v l)(hb:Ext w w'):IsSegs w' v l:=⟨h.1.below hb,h.2⟩
theorem IsPaints.below{w w':World}{v:Value}{l:List PaintD}(h:IsPaints w v l)(hb:Ext w w'):IsPaints w' v l:=⟨h.1.below hb,fun p hp=>(h.2 p hp).below hb⟩
theorem NodeD.ok.below{w w':World}{n:NodeD}(h:n.ok w)(hb:Ext w w'):n.ok w':=by
 obtain⟨h1,h2,h3,h4,h5,h6,h7,h8,h9,h10,h11,h12,h13,h14⟩:=h
 exact⟨h1,h2,h3,h4.below hb,h5.below hb,h6,h7,h8.below hb,h9,h10.below hb,h11.below hb,h12.below hb,h13.below hb,h14⟩
end Go.Proofs.YtfmkkemfhjkajaaGreatDoor
