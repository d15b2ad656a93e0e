/- A walk by reckoning: the -/
import Derived.Test.YtodpgjjgaddkeaaGreatDoorPk3
set_option maxHeartbeats 9999999
open Go renaming World->VO,Value->aaT,Program->ahe,Oper->ahk,wpList->aiw,TypeId->aix,execOp->aGe,Operand->aGf
namespace Go.Sx
open Go.Proofs.Vy Go.RowKit Go.Rel
set_option linter.unusedVariables false
set_option linter.unusedSimpArgs false
abbrev L (l:List aaT):List aaT:=l
def zr:List aaT:=[.z,.sn,.z,.sn]
def za:List aaT:=zr++zr++zr++zr++zr++zr
def ev0{α:Type}(P:ahe):Sem α->Option α
 | .pure a=>some a
 | .program k=>ev0 P (k P)
 | .mark _ k=>ev0 P k
 | _=>none
theorem oC{α:Type}{P:ahe}{w:VO}:∀{s:Sem α} {x:α},ev0 P s=some x->s.run P w = .ok x w
 | .pure a,x,h=>by obtain rfl:=aDo h; rfl
 | .program k,x,h=>by
  show(k P).run P w=_
  exact oC (s:=k P) h
 | .mark _ k,x,h=>by
  show k.run P w=_
  exact oC (s:=k) h
 | .load ..,_,h=>by cases h
 | .store ..,_,h=>by cases h
 | .new ..,_,h=>by cases h
 | .shape ..,_,h=>by cases h
 | .freeze ..,_,h=>by cases h
 | .frozen ..,_,h=>by cases h
 | .getObj ..,_,h=>by cases h
 | .setObj ..,_,h=>by cases h
 | .choose ..,_,h=>by cases h
 | .sys ..,_,h=>by cases h
 | .halt ..,_,h=>by cases h
abbrev qO:=List (Nat×Bool)
abbrev Env:=List (Nat×qO×aaT)
def tst(e:Env)(s:Nat)(b:Bool):Bool:=
 match e.lookup s with
 | some (_,.bool t)=>(match b with | true=>t | false => !t)
 | _=>false
def jZ(e:Env):qO->Bool
 | []=>true
 | [p]=>tst e p.1 p.2
 | p::q::r=>jZ e (q::r)&&tst e p.1 p.2
variable{e:Env}{p q:qO}{o:ahk}{v:aaT}{w:VO}{ρ:aGf->aaT}{nw:Prop}{y c:aGf}{x lo mx:Option aaT}{t:aix}{d i b len k l h m s:Nat}{a:Act}{z:Int}
abbrev uN(e:Env)(p:Nat×Bool)(r:qO):jZ e (p::r)=true↔jZ e r=true∧tst e p.1 p.2=true:=by
 cases r with
 | nil=>simp[jZ]
 | cons q r=>simp[jZ]
theorem aa8(e:Env):∀p:qO,jZ e p=true↔∀c∈p,tst e c.1 c.2=true
 | []=>by simp[jZ]
 | p::r=>by rw[uN,aa8 e r]; simp[and_comm]
abbrev akn(h:q.all (λc=>p.contains c)=true)(D:jZ e p=true):jZ e q=true:=by
 rw[aa8]at D |-;intro c J;rw[aDF]at h;exact D c (by simpa using h c J)
def den(e:Env)(x:qO×aaT):aaT:=_root_.cond (jZ e x.1) x.2 undef
def Holds(ρ:aGf->aaT)(e:Env):Prop:=∀i x,e.lookup i=some x->ρ (.tmp i)=den e x
def rd(e:Env)(p:qO):aGf->Option aaT
 | .tmp i=>match e.lookup i with | some (q,v)=>(match q.all (λc=>p.contains c)with | true=>some v | false=>none) | none=>none
 | .const v=>some v
 | .global g=>some (.q g 0)
 | .func f=>some (.func (.func f) #[] #[])
def zJ(e:Env)(p:qO)(x:aGf):aaT:=(rd e p x).getD undef
def Rd1(ρ:aGf->aaT)(e:Env)(x:aGf):Prop:=∀i y,x = .tmp i->e.lookup i=some y->ρ (.tmp i)=den e y
abbrev gY{x:aGf}(J:Std ρ)(h:Rd1 ρ e x)(S:jZ e p=true)(D:rd e p x=some v):ρ x=v:=by
 cases x with
 | const c=>rw[J.const]; exact aDo D
 | global g=>rw[J.global]; exact aDo D
 | func f=>rw[J.func]; exact aDo D
 | tmp i =>
  unfold rd at D;cases hl:e.lookup i with
  | none=>simp[hl]at D
  | some y =>
   obtain⟨q,u⟩:=y;dsimp only at D;rw[hl]at D;dsimp only at D;split at D
   .rename_i hq;obtain rfl:=aDo D;rw[h i _ I hl];unfold den;rw[akn hq S];rfl
   cases D
abbrev fE:=Nat×Nat×List aaT
def Mem(w:VO)(ms:List fE):Prop:=∀m∈ms,m.1<w.heap.size∧w.rangeAt m.1 m.2.1 m.2.2
abbrev Mem.ext{w w':VO}{ms:List fE}(h:Mem w ms)(J:Ext w w'):Mem w' ms:=λm D =>
 ⟨aDL (h m D).1 J.size,Vp.qM (h m D).2 (h m D).1 J⟩
def Sj(P:ahe)(ty:aix)(cs:List aaT):Option aaT:=
 match P.underlying ty,P.info? ty with
 | some t,some i=>match cs.length==i.size with
  | true=>(match t.isRow with
   | true=>some (.agg cs.toArray)
   | false=>(match cs with | [v]=>some v | _=>none))
  | false=>none
 | _,_=>none
def atJ(P:ahe)(ty:aix):Nat:=match P.info? ty with | some i=>i.size | none=>0
abbrev QT{P:ahe}{ty:aix}{cs:List aaT}{o:Nat}(h:Sj P ty cs=some v)(J:w.rangeAt b o cs) :
  (Instr.loadAt ty (.q b o)).run P w = .ok v w:=by
 unfold Sj at h;cases hu:P.underlying ty with
 | none=>simp[hu]at h
 | some t =>
  cases hi:P.info? ty with
  | none=>simp[hu,hi]at h
  | some i =>
   simp only[hu,hi]at h;cases hl:cs.length==i.size with
   | false=>simp[hl]at h
   | true =>
    simp only[hl]at h;have D:cs.length=i.size:=by simpa using hl
    cases ht:t.isRow with
    | true =>
     simp only[ht,aDe]at h;subst h;exact run_loadAt_mid w b o ty cs t J hu ht (by rw[hi]; simp[D])
    | false =>
     simp only[ht]at h;cases cs with
     | nil=>simp at h
     | cons c cs =>
      cases cs with
      | cons _ _=>simp at h
      | nil =>
       obtain rfl:=aDo h;exact Vp.abm (by have:=J 0 c I; simpa using this) hu ht
def part(ms:List fE)(k:Nat×Nat)(n:Nat):List aaT:=match ms[k.1]? with | some m=>(m.2.2.drop k.2).take n | none=>[]
def adp(ms:List fE)(k:Nat×Nat):Nat×Nat:=match ms[k.1]? with | some m=>(m.1,m.2.1+k.2) | none=>(0,0)
inductive Key where
 | mem (k d:Nat)
 | idx (i len:Nat)
 | re (d:Nat) (v u:aaT)
 | cmp (k:BinOp) (t:aix) (ox oy:aGf) (x y:aaT) (V:aaT)
 | new (d:Nat) (A:List aaT) (sh:Option Nat) (r:Nat)
 | lds (l:List (Nat×Nat))
 | dead (d:Nat) (v:aaT)
 | hand (d:Nat) (kv:List (Nat×aaT))
 | slc (l h m c:Nat)
@[match_pattern]abbrev Key.M(b o:Nat):Key:=.mem b o
def shV(D:Option Nat)(r:Nat):aaT:=match D with | none => .q r 0 | some m => .slice (some ⟨r,0,none⟩) m m
inductive Loc where
 | mem (b o:Nat)
 | idx (z:Int) (len:Nat)
 | re (v:aaT)
 | cmp (k:BinOp) (t:aix) (ox oy:aGf) (x y:aaT)
 | new (A:List aaT) (v:aaT)
 | lds (l:List (Nat×Nat))
 | dead
 | hand (l:List (Option aaT))
 | slc (l h m:Int) (c:Nat)
def wU(ms:List fE):Key->Loc
 | .mem k d => .mem (adp ms (k,d)).1 (adp ms (k,d)).2
 | .idx i len => .idx (i:Int) len
 | .re _ v _ => .re v
 | .cmp k t ox oy x y _ => .cmp k t ox oy x y
 | .new _ A sh r => .new A (shV sh r)
 | .lds l => .lds (l.map (adp ms))
 | .dead _ _ => .dead
 | .hand _ kv => .hand (kv.map λp=>some p.2)
 | .slc l h m c => .slc (l:Int) (h:Int) (m:Int) c
def og(nw:Prop)(P:ahe):List Key->Prop
 | []=>True
 | .mem _ _::r=>og nw P r
 | .idx i len::r=>i<len∧og nw P r
 | .re _ v u::r=>v=u∧og nw P r
 | .new _ _ _ _::r=>nw∧og nw P r
 | .lds _::r=>og nw P r
 | .dead _ _::r=>og nw P r
 | .hand _ _::r=>nw∧og nw P r
 | .slc l h m c::r=>(l<=h∧h<=m∧m<=c)∧og nw P r
 | .cmp k t ox oy x y V::r=>(∀w,(do eqGuard k t ox oy x y; binOp k t x y:Sem aaT).run P w = .ok V w)∧og nw P r
abbrev zY (P:ahe)(k:List Key):Prop:=og False P k
abbrev zY.app{nw:Prop}{P:ahe}:∀{k r:List Key},og nw P (k++r)->og nw P k∧og nw P r
 | [],_,h=>⟨G,h⟩
 | .mem _ _::k,r,h=>zY.app (k:=k) h
 | .lds _::k,r,h=>zY.app (k:=k) h
 | .dead _ _::k,r,h=>zY.app (k:=k) h
 | .hand _ _::k,r,h=>⟨⟨h.1,(zY.app (k:=k) h.2).1⟩,(zY.app (k:=k) h.2).2⟩
 | .slc _ _ _ _::k,r,h=>⟨⟨h.1,(zY.app (k:=k) h.2).1⟩,(zY.app (k:=k) h.2).2⟩
 | .idx _ _::k,r,h=>⟨⟨h.1,(zY.app (k:=k) h.2).1⟩,(zY.app (k:=k) h.2).2⟩
 | .re _ _ _::k,r,h=>⟨⟨h.1,(zY.app (k:=k) h.2).1⟩,(zY.app (k:=k) h.2).2⟩
 | .new _ _ _ _::k,r,h=>⟨⟨h.1,(zY.app (k:=k) h.2).1⟩,(zY.app (k:=k) h.2).2⟩
 | .cmp _ _ _ _ _ _ _::k,r,h=>⟨⟨h.1,(zY.app (k:=k) h.2).1⟩,(zY.app (k:=k) h.2).2⟩
abbrev Ll{ms:List fE}(h:Mem w ms)(k:Nat×Nat)(n:Nat):w.rangeAt (adp ms k).1 (adp ms k).2 (part ms k n):=by
 unfold part adp;cases hm:ms[k.1]? with
 | none=>intro j v D; simp at D
 | some m =>
  have:=(h m (List.mem_of_getElem? hm)).2;intro j v D;simp only at D |-;rw[List.getElem?_take]at D;split at D
  .rw[List.getElem?_drop]at D;have J:=this (k.2+j) v D;rwa [<-aE4]at J
  cases D
def O8{α:Type}(P:ahe)(ms:List fE):Sem α->List (Nat×Nat)->Option (α×List (Nat×Nat))
 | .pure a,[]=>some (a,[])
 | .program k,ks=>O8 P ms (k P) ks
 | .mark _ k,ks=>O8 P ms k ks
 | .load _ ⟨b,o,none⟩ k,q::ks=>(match part ms q 1 with
  | [v]=>(match O8 P ms (k v) ks with | some (x,L)=>some (x,(b,o)::L) | none=>none)
  | _=>none)
 | _,_=>none
theorem Ic{α:Type}{P:ahe}{ms:List fE}{w:VO}(D:Mem w ms):∀{s:Sem α} {ks L:List (Nat×Nat)} {x:α},O8 P ms s ks=some (x,L)->L=ks.map (adp ms)->s.run P w = .ok x w
 | .pure a,ks,L,x,h,hL=>by
  cases ks with
  | nil=>simp only[O8,aDe,aDm]at h; rw[<-h.1]; rfl
  | cons _ _=>simp[O8]at h
 | .program k,ks,L,x,h,hL=>by
  show(k P).run P w=_
  exact Ic D (s:=k P) (by cases ks<;>exact h) hL
 | .mark _ k,ks,L,x,h,hL=>by
  show k.run P w=_
  exact Ic D (s:=k) (by cases ks<;>exact h) hL
 | .load m a k,ks,L,x,h,hL=>by
  obtain⟨b,o,sp⟩:=a
  cases ks with
  | nil=>cases sp<;>simp[O8]at h
  | cons q ks =>
   cases sp with
   | some _=>simp[O8]at h
   | none =>
    unfold O8 at h
    split at h
    .rename_i v hp
     split at h
     .rename_i x' L' hr
      simp only[aDe,aDm]at h
      obtain⟨rfl,rfl⟩:=h
      simp only[aD1,aDP]at hL
      have J:=Ll D q 1 0 v (by rw[hp]; rfl)
      rw[<-hL.1]at J
      simp only[aFe]at J
      unfold Sem.run
      rw[J]
      exact Ic D hr hL.2
     .cases h
    .cases h
 | .store ..,ks,_,_,h,_=>by cases ks<;>simp[O8]at h
 | .new ..,ks,_,_,h,_=>by cases ks<;>simp[O8]at h
 | .shape ..,ks,_,_,h,_=>by cases ks<;>simp[O8]at h
 | .freeze ..,ks,_,_,h,_=>by cases ks<;>simp[O8]at h
 | .frozen ..,ks,_,_,h,_=>by cases ks<;>simp[O8]at h
 | .getObj ..,ks,_,_,h,_=>by cases ks<;>simp[O8]at h
 | .setObj ..,ks,_,_,h,_=>by cases ks<;>simp[O8]at h
 | .choose ..,ks,_,_,h,_=>by cases ks<;>simp[O8]at h
 | .sys ..,ks,_,_,h,_=>by cases ks<;>simp[O8]at h
 | .halt ..,ks,_,_,h,_=>by cases ks<;>simp[O8]at h
def Gi{α:Type}(P:ahe)(r:Nat):Sem α->Option (List aaT×aix×Sem α)
 | .new (.cells A ty fz) k=>(match fz==(0,0)with | true=>some (A.toList,ty,k r) | false=>none)
 | .program k=>Gi P r (k P)
 | .mark _ k=>Gi P r k
 | _=>none
theorem nM{α:Type}{P:ahe}{w:VO}{A:List aaT}{ty:aix}{k:Sem α}:∀{s:Sem α},Gi P w.heap.size s=some (A,ty,k)->s.run P w=k.run P (w.alloc (.cells A.toArray ty))
 | .new o k',h=>by
  cases o with
  | cells A' ty' fz =>
   unfold Gi at h
   split at h
   .rename_i hfz
    simp only[aDe,aDm]at h
    obtain⟨rfl,rfl,rfl⟩:=h
    have:fz=(0,0):=by simpa using hfz
    subst this
    rfl
   .cases h
  | _=>cases h
 | .program k',h=>nM (s:=k' P) h
 | .mark _ k',h=>nM (s:=k') h
 | .pure a,h=>by cases h
 | .load ..,h=>by cases h
 | .store ..,h=>by cases h
 | .shape ..,h=>by cases h
 | .freeze ..,h=>by cases h
 | .frozen ..,h=>by cases h
 | .getObj ..,h=>by cases h
 | .setObj ..,h=>by cases h
 | .choose ..,h=>by cases h
 | .sys ..,h=>by cases h
 | .halt ..,h=>by cases h
inductive Gp where
 | val (v:aaT)
 | enter (f:FuncId) (args:Array aaT)
 | new
def je:Option Next->Option Gp
 | some (.value v)=>some (.val v)
 | some (.enter f args)=>some (.enter f args)
 | _=>none
def wF:Op->Bool
 | .select _ _=>true
 | _=>false
def ao2:Option aaT->Option aaT->Option aaT
 | some (.bool A),some (.bool B)=>some (.bool (A&&B))
 | _,_=>none
def orV:Option aaT->Option aaT->Option aaT
 | some (.bool A),some (.bool B)=>some (.bool (A||B))
 | _,_=>none
def isF:aGf->Bool
 | .const (.z)=>true
 | _=>false
def isT:aGf->Bool
 | .const (.bool true)=>true
 | _=>false
def pk(e:Env)(p:qO)(c x y:aGf):Option aaT:=
 match c with
 | .tmp s=>(match isF y with
  | true=>ao2 (rd e p (.tmp s)) (rd e ((s,true)::p) x)
  | false=>(match isT x with
   | true=>orV (rd e p (.tmp s)) (rd e ((s,false)::p) y)
   | false=>none))
 | _=>none
abbrev ao3(h:isF y=true):y = .const (.z):=by
 cases y with
 | const v=>cases v with
  | bool b=>cases b with
   | false=>rfl
   | true=>cases h
  | _=>cases h
 | _=>cases h
abbrev ao4(h:isT y=true):y = .const (.bool true):=by
 cases y with
 | const v=>cases v with
  | bool b=>cases b with
   | true=>rfl
   | false=>cases h
  | _=>cases h
 | _=>cases h
abbrev adU{y:Option aaT}(h:ao2 x y=some v):∃A B,x=some (.bool A)∧y=some (.bool B)∧v = .bool (A&&B):=by
 unfold ao2 at h;split at h
 .obtain rfl:=aDo h; exact⟨_,_,I,I,I⟩
 cases h
abbrev ahT{y:Option aaT}(h:orV x y=some v):∃A B,x=some (.bool A)∧y=some (.bool B)∧v = .bool (A||B):=by
 unfold orV at h;split at h
 .obtain rfl:=aDo h; exact⟨_,_,I,I,I⟩
 cases h
abbrev adV{P:ahe}{x:aGf}{A:Bool}{V:aaT}(D:o.op = .pick c x y)(J:ρ c = .bool A)(S:(if A=true then ρ x else ρ y)=V):(aGe ρ o).run P w = .ok (.value V) w:=by
 unfold aGe;rw[D,<-S];simp[J,asBool,go_sem]
def ixv(P:ahe)(t:aix)(x ix:Option aaT):Option (Nat×Nat×Nat×Nat×Int):=
 match x,ix,P.underlying t with
 | some (.slice (some ⟨b,off,none⟩) len _),some (.int _ z),some (.slice e)=>(match P.info? e with | some i=>some (b,off,len,i.size,z) | none=>none)
 | _,_,_=>none
abbrev ahU{P:ahe}{ix:Option aaT}{off:Nat}(h:ixv P t x ix=some (b,off,len,k,z)) :
  ∃c kd e,x=some (.slice (some ⟨b,off,none⟩) len c)∧ix=some (.int kd z)∧P.underlying t=some (.slice e)∧(P.info? e).map (·.size)=some k:=by
 unfold ixv at h;split at h
 .rename_i b' off' len' c kd z' e hu;split at h
  .rename_i i hi;simp only[aDe,aDm]at h;obtain⟨rfl,rfl,rfl,rfl,rfl⟩:=h;exact⟨_,_,_,I,I,hu,by rw[hi]; rfl⟩
  cases h
 cases h
def pY(a:Option Addr)(l m k:Nat):Option Addr:=if m=l then a else a.map (·.add (l*k))
abbrev aaH{P:ahe}{e:aix}{a:Option Addr}{cap:Nat}(ht:P.underlying t=some (.slice e)){i:TypeInfo}(J:P.info? e=some i)(hk:i.size=k){D:Option aaT}
  (J:lo=none∧l=0∨∃q,lo=some (.int q (l:Int))) (S:(D=none∧mx=none∧h=len)∨∃q,D=some (.int q (h:Int))) (aa:mx=none∧m=cap∨∃q,mx=some (.int q (m:Int))) (h1:l<=h) (h2:h<=m) (h3:m<=cap) :
  (Instr.sliceAt t (.slice a len cap) lo D mx).run P w = .ok (.slice (pY a l m k) (h-l) (m-l)) w:=by
 subst hk;have D:((l:Int)<=h):=Z
 have D:((h:Int)<=m):=Z
 have D:((m:Int)<=cap):=Z
 have D:((h:Int)<=cap):=Z
 rcases J with ⟨rfl,rfl⟩ | ⟨D,rfl⟩<;>rcases S with ⟨rfl,rfl,rfl⟩ | ⟨D,rfl⟩<;>rcases aa with ⟨D,rfl⟩ | ⟨J,D⟩<;>subst_vars<;>first | (cases D; done) | skip
 all_goals simp_all [Instr.sliceAt,Instr.slice,run_underlying ht,Instr.sliceBounds,run_sliceBound,sizeOf,typeInfo,pY]
def ahV(d:Bool)(x:Option aaT):Option aaT:=match d with | true=>none | false=>x
def bnd(d:Bool)(x:Option aaT)(z0:Int):Option Int:=match d with | true=>some z0 | false=>(match x with | some (.int _ z)=>some z | _=>none)
abbrev Lm{d:Bool}{z0:Int}(h:bnd d x z0=some z):(d=true∧z=z0)∨(d=false∧∃q,x=some (.int q z)):=by
 unfold bnd at h;split at h
 .exact .inl ⟨I,(aDo h).symm⟩
 split at h
 .obtain rfl:=aDo h; exact .inr ⟨I,_,I⟩
 cases h
def ao5(P:ahe)(t:aix)(x lo S mx:Option aaT)(dl D J:Bool)(l h m:Nat):Option (aaT×Loc):=
 match x,P.underlying t with
 | some (.slice a len cap),some (.slice e)=>(match P.info? e,bnd dl lo 0,bnd D S len,bnd J mx cap,!D||J with
  | some i,some zl,some zh,some zm,true=>some (.slice (pY a l m i.size) (h-l) (m-l),.slc zl zh zm cap)
  | _,_,_,_,_=>none)
 | _,_=>none
abbrev ahW{P:ahe}{x:aaT}{S:Option aaT}{dl dh J:Bool}{c:Nat}(D:ao5 P t (some x) lo S mx dl dh J l h m=some (v,.slc (l:Int) (h:Int) (m:Int) c))(hk:l<=h∧h<=m∧m<=c) :
  (Instr.sliceAt t x (ahV dl lo) (ahV dh S) (ahV J mx)).run P w = .ok v w:=by
 unfold ao5 at D;split at D
 .rename_i a len cap e hx hu;obtain rfl:=aDo hx;split at D
  .rename_i i zl zh zm hi' hl' hh' hm' hd;simp only[aDe,aDm,Loc.slc.injEq]at D;obtain⟨rfl,rfl,rfl,rfl,rfl⟩:=D;refine aaH hu hi' I ?_ ?_ ?_ hk.1 hk.2.1 hk.2.2
   .rcases Lm hl' with ⟨rfl,h⟩ | ⟨rfl,q,rfl⟩
    .exact .inl ⟨I,Z⟩
    exact .inr ⟨q,I⟩
   .rcases Lm hh' with ⟨rfl,h⟩ | ⟨rfl,q,rfl⟩
    .obtain rfl:J=true:=by simpa using hd
     exact .inl ⟨I,I,Z⟩
    exact .inr ⟨q,I⟩
   rcases Lm hm' with ⟨rfl,h⟩ | ⟨rfl,q,rfl⟩
   .exact .inl ⟨I,Z⟩
   exact .inr ⟨q,I⟩
  cases D
 cases D
def ev1(P:ahe)(ms:List fE)(e:Env)(p:qO)(ks:List Key)(o:ahk):Option (Gp×List Key×List Loc):=
 match o.op with
 | .load ty x=>(match ks,rd e p x with
  | .mem k d::ks',some (.q b off)=>(match Sj P ty (part ms (k,d) (atJ P ty))with | some v=>some (.val v,ks',[.mem b off]) | none=>none)
  | _,_=>none)
 | .pick c x y=>(match pk e p c x y with | some v=>some (.val v,ks,[]) | none=>none)
 | .indexAddr t x ix=>(match ks,ixv P t (rd e p x) (rd e p ix)with
  | .idx i _::ks',some (b,off,len,k,z)=>some (.val (.pointer (some ⟨b,off+i*k,none⟩)),ks',[.idx z len])
  | _,_=>(match !(o.op.operands.all (λx=>(rd e p x).isSome))with
   | true=>none
   | false=>(match je (ev0 P (aGe (zJ e p) o))with | some r=>some (r,ks,[]) | none=>none)))
 | .binOp k t x y _=>(match ks,rd e p x,rd e p y with
  | .cmp _ _ _ _ _ _ V::ks',some u,some v=>some (.val V,ks',[.cmp k t x y u v])
  | _,some _,some _=>(match je (ev0 P (aGe (zJ e p) o))with | some r=>some (r,ks,[]) | none=>none)
  | _,_,_=>none)
 | op=>(match wF op || !op.operands.all (λx=>(rd e p x).isSome)with
  | true=>none
  | false=>(match ks with
   | .new d _ _ r0::ks'=>(match o.dst==some d with
    | true=>(match Gi P r0 (aGe (zJ e p) o)with
     | some (A,_,k)=>(match je (ev0 P k)with | some (.val v)=>some (.new,ks',[.new A v]) | _=>none)
     | none=>none)
    | false=>(match je (ev0 P (aGe (zJ e p) o))with | some r=>some (r,ks,[]) | none=>none))
   | .hand d kv::ks'=>(match o.dst==some d&&kv.all (λq=>o.op.operands.any λy=>match y with | .tmp s=>s==q.1 | _=>false)with | true=>some (.new,ks',[.hand (kv.map λq=>rd e p (.tmp q.1))]) | false=>(match je (ev0 P (aGe (zJ e p) o))with | some r=>some (r,ks,[]) | none=>none))
   | .slc l h m _::ks'=>(match op with
    | .slice t x lo hi mx=>(match ao5 P t (rd e p x) (lo.bind (rd e p)) (hi.bind (rd e p)) (mx.bind (rd e p)) lo.isNone hi.isNone mx.isNone l h m with | some (v,L)=>some (.val v,ks',[L]) | none=>none)
    | _=>(match je (ev0 P (aGe (zJ e p) o))with | some r=>some (r,ks,[]) | none=>none))
   | .lds l::ks'=>(match O8 P ms (aGe (zJ e p) o) l with
    | some (.value v,L)=>some (.val v,ks',[.lds L])
    | _=>none)
   | _=>(match je (ev0 P (aGe (zJ e p) o))with | some r=>some (r,ks,[]) | none=>none)))
def ren(d:Option Nat)(r:Gp×List Key×List Loc):Gp×List Key×List Loc:=
 match r with
 | (.val v,.re d' x u::ks,L)=>(match d==some d' with | true=>(.val u,ks,L++[.re v]) | false=>(.val v,.re d' x u::ks,L))
 | _=>r
def Gives(P:ahe)(ρ:aGf->aaT)(w:VO)(o:ahk):Gp->Prop
 | .val v=>(aGe ρ o).run P w = .ok (.value v) w
 | .enter f args=>(aGe ρ o).run P w = .ok (.enter f args) w
 | .new=>True
def Gm(ρ:aGf->aaT)(e:Env)(o:ahk):Prop:=∀x∈o.op.operands,Rd1 ρ e x
abbrev atK{x:aGf}(J:Std ρ)(hc:Rd1 ρ e c)(hx:Rd1 ρ e x)(hy:Rd1 ρ e y)(hg:jZ e p=true)(h:pk e p c x y=some v) :
  ∃A,ρ c = .bool A∧(if A=true then ρ x else ρ y)=v:=by
 have key:∀(s:Nat) (A:Bool) (b:Bool),rd e p (.tmp s)=some (.bool A)->A=b->jZ e ((s,b)::p)=true:=by
  intro s A b D S;rw[uN];refine⟨hg,?_⟩;unfold rd at D;cases hl:e.lookup s with
  | none=>simp[hl]at D
  | some z =>
   obtain⟨q,u⟩:=z;dsimp only at D;rw[hl]at D;dsimp only at D;split at D
   .obtain rfl:=aDo D;unfold tst;rw[hl];subst S;cases A<;>rfl
   cases D
 unfold pk at h;split at h
 .rename_i s;split at h
  .rename_i hF;obtain⟨A,B,D,S,rfl⟩:=adU h;refine⟨A,gY J hc hg D,?_⟩;cases hA:A with
   | true=>rw[aDb I,gY J hx (key s A true D hA) S]; rfl
   | false=>rw[aC9 Y,ao3 hF,J.const]; rfl
  split at h
  .rename_i hT;obtain⟨A,B,D,S,rfl⟩:=ahT h;refine⟨A,gY J hc hg D,?_⟩;cases hA:A with
   | true=>rw[aDb I,ao4 hT,J.const]; rfl
   | false=>rw[aC9 Y,gY J hy (key s A false D hA) S]; rfl
  cases h
 cases h
abbrev lM{P:ahe}{r:Gp}(hs:Std ρ)(hR:Gm ρ e o)(hg:jZ e p=true)(J:wF o.op=false)(h2:o.op.operands.all (λx=>(rd e p x).isSome)=true)
  (D:je (ev0 P (aGe (zJ e p) o))=some r):Gives P ρ w o r:=by
 have hc:aGe ρ o=aGe (zJ e p) o:=by
  refine execOp_congr o (λcs b S=>by rw[S]at J; cases J) λx S=>?_;rw[aFs]at h2;obtain⟨v,D⟩:=aEq.1 (h2 x S);rw[gY hs (hR x S) hg D];simp[zJ,D]
 unfold je at D;split at D
 .rename_i v J;obtain rfl:=aDo D;show(aGe ρ o).run P w=_;rw[hc]; exact oC J
 .rename_i f args J;obtain rfl:=aDo D;show(aGe ρ o).run P w=_;rw[hc]; exact oC J
 cases D
abbrev Ci{k:Key}{ks' J:List Key}(h:k::ks'=J++ks'):J=[k]:=by
 have D:J.length=1:=by have:=aDc List.length h; simp at this; omega
 match J,D with
 | [k2],_=>simp at h; rw[h]
abbrev ahX{P:ahe}{ms:List fE}{ks ks':List Key}{r:Gp}{L:List Loc}
  (h:ev1 P ms e p ks o=some (r,ks',L)) (hs:Std ρ) (hR:Gm ρ e o) (hg:jZ e p=true) (hm:Mem w ms) (hL:∃kl,ks=kl++ks'∧L=kl.map (wU ms)∧og nw P kl):Gives P ρ w o r:=by
 unfold ev1 at h;split at h
 .rename_i ty x hop;split at h
  .rename_i k d ks1 b off hr;split at h
   .rename_i v hv;simp only[aDe,aDm]at h;obtain⟨rfl,rfl,rfl⟩:=h;obtain⟨kl,e1,S,_⟩:=hL;obtain rfl:=Ci e1;simp only[aD1,aEr,wU,aDP,and_true,Loc.mem.injEq]at S;have hx:ρ x = .q b off:=gY hs (hR x (by simp[hop,Op.operands])) hg hr;have h1:=Ll hm (k,d) (atJ P ty);rw[<-S.1,<-S.2]at h1;have h2:=QT (w:=w) hv h1;show(aGe ρ o).run P w=_;unfold aGe;simp only[hop,hx,aEe,h2];rfl
   cases h
  cases h
 .rename_i c x y hop;split at h
  .rename_i v hv;simp only[aDe,aDm]at h;obtain⟨rfl,-,-⟩:=h;have D:∀z,z=c∨z=x∨z=y->Rd1 ρ e z:=λz hz=>hR z (by rw[hop]; simp[Op.operands]; exact hz);obtain⟨A,h1,h2⟩:=atK hs (D c (.inl I)) (D x (.inr (.inl I))) (D y (.inr (.inr I))) hg hv;exact adV hop h1 h2
  cases h
 .rename_i t x ix hop;split at h
  .rename_i i n' ks1 b off len k z hix;simp only[aDe,aDm]at h;obtain⟨rfl,rfl,rfl⟩:=h;obtain⟨kl,e1,S,hk⟩:=hL;obtain rfl:=Ci e1;simp only[aD1,aEr,wU,aDP,and_true,Loc.idx.injEq]at S;obtain⟨rfl,rfl⟩:=S;obtain⟨c,kd,e3,hx,hi,J,ae⟩:=ahU hix;have D:∀z,z=x∨z=ix->Rd1 ρ e z:=λz hz=>hR z (by rw[hop]; simp[Op.operands]; exact hz);exact Vp.adv i hop (gY hs (D x (.inl I)) hg hx) (gY hs (D ix (.inr I)) hg hi) hk.1 J ae
  split at h
  .cases h
  rename_i ah;split at h
  .rename_i r' hv;simp only[aDe,aDm]at h;obtain⟨rfl,-,-⟩:=h;exact lM hs hR hg (by rw[hop]; rfl) (by simpa using ah) hv
  cases h
 .rename_i k t x y yt hop;have D:∀z,z=x∨z=y->Rd1 ρ e z:=λz hz=>hR z (by rw[hop]; simp[Op.operands]; exact hz);split at h
  .rename_i k' t' ox oy x' y' V ks1 u v J hv;simp only[aDe,aDm]at h;obtain⟨rfl,rfl,rfl⟩:=h;obtain⟨kl,e1,S,hk⟩:=hL;obtain rfl:=Ci e1;simp only[aD1,aEr,wU,aDP,and_true,Loc.cmp.injEq]at S;obtain⟨rfl,rfl,rfl,rfl,rfl,rfl⟩:=S;have h1:=hk.1 w;show(aGe ρ o).run P w=_;unfold aGe;simp only[hop,gY hs (D x (.inl I)) hg J,gY hs (D y (.inr I)) hg hv];simp only[aEe]at h1 |-;rw[h1];rfl
  .rename_i J hv _;split at h
   .rename_i r' hr;simp only[aDe,aDm]at h;obtain⟨rfl,-,-⟩:=h;exact lM hs hR hg (by rw[hop]; rfl) (by rw[hop]; simp only[Op.operands]; simp[*]) hr
   cases h
  cases h
 split at h
 .cases h
 rename_i D;simp only[aDX]at D;split at h
 .split at h
  .split at h
   .split at h
    .simp only[aDe,aDm]at h;obtain⟨rfl,-,-⟩:=h;trivial
    cases h
   cases h
  split at h
  .rename_i r' hv;simp only[aDe,aDm]at h;obtain⟨rfl,-,-⟩:=h;exact lM hs hR hg D.1 (by simpa using D.2) hv
  cases h
 .split at h
  .simp only[aDe,aDm]at h;obtain⟨rfl,-,-⟩:=h;trivial
  split at h
  .rename_i r' hv;simp only[aDe,aDm]at h;obtain⟨rfl,-,-⟩:=h;exact lM hs hR hg D.1 (by simpa using D.2) hv
  cases h
 .rename_i l1 h1 m1 c1 ks1;split at h
  .rename_i t x lo hi mx hop;split at h
   .rename_i v L1 hsv;simp only[aDe,aDm]at h;obtain⟨rfl,rfl,rfl⟩:=h;obtain⟨kl,e1,S,hk⟩:=hL;obtain rfl:=Ci e1;simp only[aD1,aEr,wU,aDP,and_true]at S;subst S;have aa:o.op = .slice t x lo hi mx:=by assumption
    have J:=D.2;rw[aa]at J;simp only[Op.operands,aEC,Array.all_append,aDt,aFs,Option.mem_toArray]at J;have ab:∀y,(y=x∨lo=some y∨hi=some y∨mx=some y)->∃z,rd e p y=some z∧ρ y=z:=λy hy=>by
     have ac:(rd e p y).isSome=true:=by
      rcases hy with rfl | h | h | h
      .exact J.1.1.1 _ Y
      .exact J.1.1.2 _ (by simp[h])
      .exact J.1.2 _ (by simp[h])
      exact J.2 _ (by simp[h])
     obtain⟨z,hz⟩:=aEq.1 ac;refine⟨z,hz,gY hs (hR y ?_) hg hz⟩;rw[aa];simp only[Op.operands,Array.mem_append,Option.mem_toArray];rcases hy with rfl | h | h | h
     .simp
     .simp[h]
     .simp[h]
     simp[h]
    obtain⟨J,af,ag⟩:=ab x (.inl I);have J:∀q:Option aGf,(∀y,q=some y->∃z,rd e p y=some z∧ρ y=z)->q.map ρ=ahV q.isNone (q.bind (rd e p)):=λq hq=>by
     cases q with
     | none=>rfl
     | some y=>obtain⟨z,h1,h2⟩:=hq y I; simp[h1,h2,ahV]
    show(aGe ρ o).run P w=_;unfold aGe;rw[af]at hsv;simp only[aa,ag,J lo λy h=>ab y (.inr (.inl h)),J hi λy h=>ab y (.inr (.inr (.inl h))),J mx λy h=>ab y (.inr (.inr (.inr h))),aEe,ahW hsv hk.1];rfl
   cases h
  split at h
  .rename_i r' hv;simp only[aDe,aDm]at h;obtain⟨rfl,-,-⟩:=h;exact lM hs hR hg D.1 (by simpa using D.2) hv
  cases h
 .rename_i l1 ks1;split at h
  .rename_i v L1 hev;simp only[aDe,aDm]at h;obtain⟨rfl,rfl,rfl⟩:=h;obtain⟨kl,e1,S,_⟩:=hL;obtain rfl:=Ci e1;simp only[aD1,aEr,wU,aDP,and_true,Loc.lds.injEq]at S;have J:aGe ρ o=aGe (zJ e p) o:=by
    refine execOp_congr o (λcs b e1=>by rw[e1]at D; cases D.1) λx hx=>?_;have h2:=D.2;simp only[aEC,aFs]at h2;obtain⟨z,hz⟩:=aEq.1 (h2 x hx);rw[gY hs (hR x hx) hg hz];simp[zJ,hz]
   show(aGe ρ o).run P w=_;rw[J];exact Ic hm hev S
  cases h
 split at h
 .rename_i r' hv;simp only[aDe,aDm]at h;obtain⟨rfl,-,-⟩:=h;exact lM hs hR hg D.1 (by simpa using D.2) hv
 cases h
abbrev Zl{P:ahe}{ms:List fE}{ks ks':List Key}{r:Gp}{L:List Loc}(h:ev1 P ms e p ks o=some (r,ks',L)):∃D,ks=D++ks'∧L.length=D.length:=by
 have none:∀{J:Gp} {k1:List Key},some (J,k1,([]:List Loc))=some (r,ks',L)->k1=ks->∃D,ks=D++ks'∧L.length=D.length:=by
  intro J k1 h hk;simp only[aDe,aDm]at h;obtain⟨-,rfl,rfl⟩:=h;exact⟨[],by simp[hk],I⟩
 unfold ev1 at h;split at h
 .split at h
  .split at h
   .simp only[aDe,aDm]at h;obtain⟨-,rfl,rfl⟩:=h;exact⟨[_],I,I⟩
   cases h
  cases h
 .split at h
  .exact none h I
  cases h
 .split at h
  .simp only[aDe,aDm]at h;obtain⟨-,rfl,rfl⟩:=h;exact⟨[_],I,I⟩
  split at h
  .cases h
  split at h
  .exact none h I
  cases h
 .split at h
  .simp only[aDe,aDm]at h;obtain⟨-,rfl,rfl⟩:=h;exact⟨[_],I,I⟩
  .split at h
   .exact none h I
   cases h
  cases h
 split at h
 .cases h
 split at h
 .split at h
  .split at h
   .split at h
    .simp only[aDe,aDm]at h;obtain⟨-,rfl,rfl⟩:=h;exact⟨[_],I,I⟩
    cases h
   cases h
  split at h
  .exact none h I
  cases h
 .split at h
  .simp only[aDe,aDm]at h;obtain⟨-,rfl,rfl⟩:=h;exact⟨[_],I,I⟩
  split at h
  .exact none h I
  cases h
 .split at h
  .split at h
   .simp only[aDe,aDm]at h;obtain⟨-,rfl,rfl⟩:=h;exact⟨[_],I,I⟩
   cases h
  split at h
  .exact none h I
  cases h
 .split at h
  .simp only[aDe,aDm]at h;obtain⟨-,rfl,rfl⟩:=h;exact⟨[_],I,I⟩
  cases h
 split at h
 .exact none h I
 cases h
abbrev RS{P:ahe}{ms:List fE}{ks ks':List Key}{L:List Loc}(h:ev1 P ms e p ks o=some (.new,ks',L)) :
  (∃d A0 sh r0 A v ty k,ks = .new d A0 sh r0::ks'∧o.dst=some d∧L=[.new A v]∧Gi P r0 (aGe (zJ e p) o)=some (A,ty,k)∧ev0 P k=some (.value v)∧wF o.op=false∧o.op.operands.all (λx=>(rd e p x).isSome)=true)∨∃d S,ks = .hand d S::ks'∧o.dst=some d∧L=[.hand (S.map λq=>rd e p (.tmp q.1))]∧∀q∈S,.tmp q.1∈o.op.operands:=by
 have J:∀{x:Option Next} {k1:List Key},(match je x with | some r=>some (r,k1,([]:List Loc)) | none=>none)=some (.new,ks',L)->False:=by
  intro x k1 h;split at h
  .rename_i r hr;simp only[aDe,aDm]at h;obtain⟨rfl,-,-⟩:=h;unfold je at hr;split at hr<;>cases hr
  cases h
 unfold ev1 at h;split at h
 .split at h
  .split at h<;>cases h
  cases h
 .split at h<;>cases h
 .split at h
  .cases h
  split at h
  .cases h
  exact(J h).elim
 .split at h
  .cases h
  .exact(J h).elim
  cases h
 split at h
 .cases h
 rename_i D;simp only[aDX]at D;split at h
 .rename_i d A0 sh r0 ks1;split at h
  .rename_i hdd;split at h
   .rename_i A ty k hev;split at h
    .rename_i v hv;simp only[aDe,aDm]at h;obtain⟨-,rfl,rfl⟩:=h;refine .inl ⟨d,A0,sh,r0,A,v,ty,k,I,by simpa using hdd,I,hev,?_,D.1,by simpa using D.2⟩;unfold je at hv;split at hv
     .rename_i h2; obtain D:=aDo hv; rw[h2]; simp only[Gp.val.injEq]at D; rw[D]
     .cases hv
     cases hv
    cases h
   cases h
  exact(J h).elim
 .rename_i d S ks1;split at h
  .rename_i hdd;simp only[aDe,aDm]at h;obtain⟨-,rfl,rfl⟩:=h;simp only[aDt,aDu,aDF]at hdd;refine .inr ⟨d,S,I,hdd.1,I,λq hq=>?_⟩;have D:=hdd.2 q hq;rw[Array.any_eq_true']at D;obtain⟨y,hy,S⟩:=D;cases y<;>simp at S;rw[<-S]; exact hy
  exact(J h).elim
 .split at h
  .split at h<;>cases h
  exact(J h).elim
 .split at h<;>cases h
 exact(J h).elim
def evR(P:ahe)(ms:List fE)(e:Env)(p:qO)(ks:List Key)(o:ahk):Option (Gp×List Key×List Loc):=
 match ev1 P ms e p ks o with
 | some r=>some (ren o.dst r)
 | none=>none
abbrev zy(d:Option Nat)(r:Gp×List Key×List Loc):ren d r=r∨∃v D x u ks L,r=(.val v,.re D x u::ks,L)∧ren d r=(.val u,ks,L++[.re v]):=by
 unfold ren;split
 .rename_i v D x u ks L;split
  .exact .inr ⟨v,D,x,u,ks,L,I,I⟩
  exact .inl I
 exact .inl I
abbrev ako{P:ahe}{ms:List fE}{ks ks':List Key}{L:List Loc}(h:evR P ms e p ks o=some (.new,ks',L)):ev1 P ms e p ks o=some (.new,ks',L):=by
 unfold evR at h;cases h1:ev1 P ms e p ks o with
 | none=>simp[h1]at h
 | some r1 =>
  simp only[h1,aDe]at h;rcases zy o.dst r1 with D | ⟨v,d',x,u,J,L2,D,S⟩
  .rw[D]at h; rw[h]
  rw[S]at h; simp at h
abbrev akp{P:ahe}{ms:List fE}{ks ks':List Key}{r:Gp}{L L':List Loc}(h:evR P ms e p ks o=some (r,ks',L))(hL:L++L'=ks.map (wU ms))(hk:og nw P ks) :
  (∃D,ks=D++ks'∧L=D.map (wU ms)∧og nw P D)∧L'=ks'.map (wU ms)∧og nw P ks':=by
 have key:∃D,ks=D++ks'∧L.length=D.length:=by
  unfold evR at h;cases h1:ev1 P ms e p ks o with
  | none=>simp[h1]at h
  | some r1 =>
   simp only[h1,aDe]at h;obtain⟨r1,k1,L1⟩:=r1;obtain⟨D,S,hl⟩:=Zl h1;rcases zy o.dst (r1,k1,L1)with J | ⟨v,d',x,u,aa,L2,J,h3⟩
   .rw[J]at h;simp only[aDm]at h;obtain⟨-,rfl,rfl⟩:=h;exact⟨D,S,hl⟩
   rw[h3]at h;simp only[aDm]at h J;obtain⟨-,rfl,rfl⟩:=h;obtain⟨rfl,rfl,rfl⟩:=J;exact⟨D++[.re d' x u],by simp[S],by simp[hl]⟩
 obtain⟨D,rfl,hl⟩:=key;rw[aEb]at hL;obtain⟨h1,J⟩:=List.append_inj hL (by simpa using hl);exact⟨⟨D,I,h1,(zY.app hk).1⟩,J,(zY.app hk).2⟩
abbrev ao7{P:ahe}{ms:List fE}{ks ks':List Key}{r:Gp}{L:List Loc}
  (h:evR P ms e p ks o=some (r,ks',L)) (hs:Std ρ) (hR:Gm ρ e o) (hg:jZ e p=true) (hm:Mem w ms) (hL:∃J,ks=J++ks'∧L=J.map (wU ms)∧og nw P J):Gives P ρ w o r:=by
 unfold evR at h;cases h1:ev1 P ms e p ks o with
 | none=>simp[h1]at h
 | some r1 =>
  simp only[h1,aDe]at h;obtain⟨r1,k1,L1⟩:=r1;rcases zy o.dst (r1,k1,L1)with D | ⟨v,d',x,u,S,L2,D,h3⟩
  .rw[D]at h;simp only[aDm]at h;obtain⟨rfl,rfl,rfl⟩:=h;exact ahX h1 hs hR hg hm hL
  rw[h3]at h;simp only[aDm]at h D;obtain⟨rfl,rfl,rfl⟩:=h;obtain⟨rfl,rfl,rfl⟩:=D;obtain⟨J,e1,e2,hk⟩:=hL;obtain⟨D,e3,e4⟩:=Zl h1;have e5:J=D++[.re d' x u]:=by
   have:J++S=(D++[.re d' x u])++S:=by rw[<-e1,e3]; simp
   exact List.append_cancel_right this
  subst e5;rw[aEb]at e2;obtain⟨f1,J⟩:=List.append_inj e2 (by simpa using e4);simp only[aD1,aEr,wU,aDP,and_true,Loc.re.injEq]at J;obtain⟨g1,g2⟩:=zY.app hk;have S:v=u:=J.trans g2.1;rw[<-S];exact ahX h1 hs hR hg hm ⟨D,e3,f1,g1⟩
def hd1(e:Env):qO->Bool
 | []=>true
 | c::_=>tst e c.1 c.2
abbrev akq(h:hd1 e p=false):jZ e p=false:=by
 cases p with
 | nil=>cases h
 | cons c r =>
  cases hg:jZ e (c::r)with
  | false=>rfl
  | true =>
   have D:=((uN e c r).1 hg).2;have h:tst e c.1 c.2=false:=h;rw[h]at D; cases D
def ev2(P:ahe)(ms:List fE)(e:Env)(p:qO)(ks:List Key)(o:ahk):Option (Gp×List Key×List Loc):=
 match ks with
 | .dead d v::r=>(match o.dst==some d with
  | true=>(match hd1 e p with | false=>some (.val v,r,[.dead]) | true=>none)
  | false=>evR P ms e p ks o)
 | _=>evR P ms e p ks o
abbrev zx{P:ahe}{ms:List fE}{ks ks':List Key}{r:Gp}{L:List Loc}(h:ev2 P ms e p ks o=some (r,ks',L)) :
  evR P ms e p ks o=some (r,ks',L)∨∃d v,ks = .dead d v::ks'∧r = .val v∧L=[.dead]∧jZ e p=false:=by
 unfold ev2 at h;split at h
 .rename_i d v r';split at h
  .split at h
   .rename_i hg;simp only[aDe,aDm]at h;obtain⟨rfl,rfl,rfl⟩:=h;exact .inr ⟨d,v,I,I,I,akq hg⟩
   cases h
  exact .inl h
 exact .inl h
abbrev RU{P:ahe}{ms:List fE}{ks ks':List Key}{L:List Loc}(h:ev2 P ms e p ks o=some (.new,ks',L)):ev1 P ms e p ks o=some (.new,ks',L):=by
 rcases zx h with h | ⟨_,_,_,h,_⟩
 .exact ako h
 cases h
abbrev wz{P:ahe}{ms:List fE}{ks ks':List Key}{r:Gp}{L L':List Loc}(h:ev2 P ms e p ks o=some (r,ks',L))(J:L++L'=ks.map (wU ms))(hk:og nw P ks) :
  (∃D,ks=D++ks'∧L=D.map (wU ms)∧og nw P D)∧L'=ks'.map (wU ms)∧og nw P ks':=by
 rcases zx h with h | ⟨d,v,rfl,rfl,rfl,_⟩
 .exact akp h J hk
 simp only[aEp,aD8,aD1,aDP]at J;exact⟨⟨[.dead d v],I,I,G⟩,J.2,hk⟩
abbrev Fa{P:ahe}{ms:List fE}{ks ks':List Key}{r:Gp}{L:List Loc}
  (h:ev2 P ms e p ks o=some (r,ks',L)) (S:Std ρ) (hR:Gm ρ e o) (J:jZ e p=true) (hm:Mem w ms) (hL:∃D,ks=D++ks'∧L=D.map (wU ms)∧og nw P D):Gives P ρ w o r:=by
 rcases zx h with h | ⟨_,_,_,_,_,h⟩
 .exact ao7 h S hR J hm hL
 rw[J]at h; cases h
def pathOf(ops:Array ahk)(e:Env)(o:ahk):Option qO:=
 match o.guard with
 | none=>some []
 | some (g,b)=>match (ops[g]?).bind (·.dst)with
  | some s=>(match e.lookup s with | some (q,.bool _)=>some ((s,b)::q) | _=>none)
  | none=>none
def put(e:Env)(d:Option Nat)(p:qO)(v:aaT):Env:=match d with | some d=>(d,p,v)::e | none=>e
def yF(n:Nat)(e:Env)(d:Option Nat)(p:qO):Bool:=
 match d with
 | some d=>decide (d<n)&&(p.all (λc=>c.1 != d)&&e.all (λx=>x.2.1.all (λc=>c.1 != d)))
 | none=>true
abbrev Cl:=FuncId×Array aaT×Bool×aaT
abbrev ClD:=Cl×Option Nat×List Nat
abbrev T3:=Bool×aaT×Bool
abbrev Out:=Env×List Loc×List ClD×List T3
def waits(ops:Array ahk)(o:ahk):List Nat:=o.after.toList.filterMap λg=>match Region.binds .any g with | true=>(ops[g.on]?).bind (·.dst) | false=>none
def exec(P:ahe)(ms:List fE)(ops:Array ahk)(n:Nat):List ahk->Env->List Key->List aaT->Option Out
 | [],e,ks,cs=>(match ks,cs with | [],[]=>some (e,[],[],[]) | _,_=>none)
 | o::os,e,ks,cs =>
  match pathOf ops e o with
  | none=>none
  | some p =>
   match yF n e o.dst p,ev2 P ms e p ks o with
   | true,some (.val v,ks',L) =>
    (match exec P ms ops n os (put e o.dst p v) ks' cs with | some (e',L',C,T)=>some (e',L++L',C,(jZ e p,v,true)::T) | none=>none)
   | true,some (.new,ks',L)=>(match cs with
    | v::cs'=>(match exec P ms ops n os (put e o.dst p v) ks' cs' with | some (e',L',C,T)=>some (e',L++L',C,(jZ e p,v,false)::T) | none=>none)
    | []=>none)
   | true,some (.enter f args,ks',L)=>(match cs with
    | v::cs'=>(match exec P ms ops n os (put e o.dst p v) ks' cs' with | some (e',L',C,T)=>some (e',L++L',((f,args,jZ e p,v),o.dst,waits ops o)::C,(jZ e p,v,false)::T) | none=>none)
    | []=>none)
   | _,_=>none
def Obl(P:ahe)(w:VO):List Cl->Prop
 | []=>True
 | c::cs=>(∀w',Ext w w'->c.2.2.1=true->Calls P c.1 c.2.1 w' (λe D=>e = .returned c.2.2.2∧Ext w' D))∧Obl P w cs
abbrev Obl.ext{P:ahe}{w w':VO}:∀{C:List Cl},Obl P w C->Ext w w'->Obl P w' C
 | [],_,_=>trivial
 | _::_,h,hE=>⟨λD J=>h.1 D (K00 hE J),Obl.ext h.2 hE⟩
abbrev akr{b:Bool}(h:s≠d):tst (put e (some d) p v) s b=tst e s b:=by
 unfold tst put;rw[aD5];have:(s==d)=false:=by simpa using h
 rw[this]
theorem O9{e D:Env}:∀{q:qO},(∀c∈q,tst e c.1 c.2=tst D c.1 c.2)->jZ e q=jZ D q
 | [],_=>rfl
 | [c],h=>by simp only[jZ]; exact h c Y
 | c::c2::r,h=>by
  simp only[jZ]
  rw[O9 (q:=c2::r) (λx D=>h x (by simp at D |-; exact .inr D)),h c Y]
abbrev Ie(h:q.all (λc=>c.1 != d)=true):jZ (put e (some d) p v) q=jZ e q:=
 O9 λc D=>akr (by rw[aDF]at h; simpa using h c D)
abbrev Nl{x:qO×aaT}(h:e.lookup i=some x):(i,x)∈e:=by
 induction e with
 | nil=>simp at h
 | cons y e ih =>
  rw[aD5]at h;by_cases hi:i=y.1
  .subst hi;simp only[aE3,aDe]at h;subst h; simp
  have D:(i==y.1)=false:=by simpa using hi
  rw[D]at h;exact aEs _ (ih h)
abbrev Lp{n:Nat}(h:yF n e (some d) p=true):d<n∧p.all (λc=>c.1 != d)=true∧∀i x,e.lookup i=some x->x.1.all (λc=>c.1 != d)=true:=by
 simp only[yF,aDt,aDv]at h;refine⟨h.1,h.2.1,λi x J=>?_⟩;have D:=h.2.2;rw[aDF]at D;exact D _ (Nl J)
abbrev EZ{n:Nat}{d:Option Nat}{u:aaT}(h:Holds a.eval e)(D:a.tmps.size=n)(hp:yF n e d p=true)(hu:u=den e (p,v)):Holds (a.put d u).eval (put e d p v):=by
 cases d with
 | none=>exact h
 | some d =>
  obtain⟨hd,J,S⟩:=Lp hp;intro i x D;by_cases hi:i=d
  .subst hi;simp only[put,aD5,aE3,aDe]at D;subst D;unfold den;rw[Ie J];have J:i<a.tmps.size:=Z
   have:(a.put (some i) u).eval (.tmp i)=u:=by simp[Act.eval,Act.put,J]
   rw[this,hu]; rfl
  have J:(i==d)=false:=by simpa using hi
  simp only[put,aD5,J]at D;rw[lI (oP a (some d) u i (λe=>hi (aDo e).symm)),h i x D];unfold den;rw[Ie (S i x D)]
abbrev VU{P:ahe}{next:Act->VO->Prop}{Q:Exit->Act->VO->Prop}(h:(aGe a.eval o).run P w = .ok (.value v) w)(hn:next (a.put o.dst v) w):o.wp P a w next Q:=by
 unfold Oper.wp; rw[h]; exact hn
abbrev sG{ops:Array ahk}(D:pathOf ops e o=some p)(h:∀x,(∃g,o.guard=some g∧(ops[g.1]?).bind (·.dst)=some x)->Rd1 a.eval e (.tmp x)):Region.wanted o (yielded ops a.tmps)=true↔jZ e p=true:=by
 unfold pathOf at D;cases hg:o.guard with
 | none =>
  rw[hg]at D;obtain rfl:=aDo D;simp[Region.wanted,hg,jZ]
 | some gb =>
  obtain⟨g,b⟩:=gb;rw[hg]at D;simp only at D;cases hs:(ops[g]?).bind (·.dst)with
  | none=>simp[hs]at D
  | some s =>
   simp only[hs]at D;have J:=Au (ops:=ops) (a:=a) hg;rw[hs]at J;rw[J];have J:=h s ⟨_,hg,hs⟩;cases hl:e.lookup s with
   | none=>simp[hl]at D
   | some x =>
    obtain⟨q,u⟩:=x;have S:=J s _ I hl;cases u<;>simp only[hl]at D<;>try (cases D)
    rename_i t;show a.eval (.tmp s)=_↔_;rw[S,uN];unfold den tst;rw[hl];simp only;cases jZ e q<;>cases b<;>cases t<;>simp[undef]
abbrev gX(h:Holds ρ e)(o:ahk):Gm ρ e o:=λ_ _ i y _ hl=>h i y hl
theorem RV{P:ahe}{ms:List fE}{ops:Array ahk}{n:Nat}{Q:Exit->Act->VO->Prop}{rest:List ahk}:∀(os:List ahk) {e e':Env} {ks:List Key} {L:List Loc} {C:List ClD} {T:List T3} {cs:List aaT} {a:Act} {w:VO},
  exec P ms ops n os e ks cs=some (e',L,C,T)->a.tmps.size=n->Holds a.eval e->Mem w ms->L=ks.map (wU ms)->zY P ks->Obl P w (C.map (·.1)) ->
  (∀a' w',Ext w w'->(C=[]->w'=w)->a'.tmps.size=n->a'.defers=a.defers->Holds a'.eval e'->aiw P ops Q rest a' w')->aiw P ops Q (os++rest) a w
 | [],e,e',ks,L,C,T,cs,a,w,hx,hsz,hh,hm,hL,hk0,hO,hn=>by
  unfold exec at hx
  split at hx
  .simp only[aDe,aDm]at hx
   obtain⟨rfl,-,-,-⟩:=hx
   exact hn a w K01 (λ_=>I) hsz I hh
  .cases hx
 | o::os,e,e',ks,L,C,T,cs,a,w,hx,hsz,hh,hm,hL,hk0,hO,hn=>by
  unfold exec at hx
  cases hp:pathOf ops e o with
  | none=>simp[hp]at hx
  | some p =>
   simp only[hp]at hx
   have hw:=sG (a:=a) hp (λx _ i y _ hl=>hh i y hl)
   cases hpo:yF n e o.dst p with
   | false=>simp[hpo]at hx
   | true =>
    cases h1:ev2 P ms e p ks o with
    | none=>simp[hpo,h1]at hx
    | some r =>
     obtain⟨r,ks',D⟩:=r
     have go:∀v (S:List ClD) L' T' J,exec P ms ops n os (put e o.dst p v) ks' J=some (e',L',S,T')->D++L'=ks.map (wU ms)->Obl P w (S.map (·.1))->(S=[]->C=[]∨jZ e p=true->True) ->
       ∀u w1,u=den e (p,v)->Ext w w1->(S=[]->w1=w∨C≠[])->(C=[]->S=[])->aiw P ops Q (os++rest) (a.put o.dst u) w1:=by
      intro v S L' T' J D al am _ u w1 hu hE an ab
      obtain⟨_,ah,ai⟩:=wz h1 al hk0
      refine RV os D (by rw[tX]; exact hsz) (EZ hh hsz hpo hu) (hm.ext hE) ah ai (am.ext hE) λa' w' ac ae aa af ag=>?_
      refine hn a' w' (K00 hE ac) (λhc=>?_) aa (by rw[af,put_defers]) ag
      rw[ae (ab hc)]
      rcases an (ab hc)with h | h
      .exact h
      .exact absurd hc h
     cases r with
     | val v =>
      simp only[hpo,h1]at hx
      cases D:exec P ms ops n os (put e o.dst p v) ks' cs with
      | none=>simp[D]at hx
      | some z =>
       obtain⟨e1,L',S,T'⟩:=z
       simp only[D,aDe,aDm]at hx
       obtain⟨rfl,rfl,rfl,-⟩:=hx
       show aiw P ops Q (o::(os++rest)) a w
       unfold aiw
       by_cases hG:jZ e p=true
       .rw[aDb (hw.2 hG)]
        left
        refine VU (Fa h1 (Std.act a) (gX hh o) hG hm (wz h1 hL hk0).1) ?_
        exact go v _ _ _ _ D hL hO (λ_ _=>G) v w (by simp[den,hG]) K01 (λ_ => .inl I) (λh=>h)
       .rw[aC9 (λh=>hG (hw.1 h))]
        exact go v _ _ _ _ D hL hO (λ_ _=>G) undef w (by simp[den,hG]) K01 (λ_ => .inl I) (λh=>h)
     | new =>
      rcases RS (RU h1)with ⟨_,_,_,_,_,_,_,_,rfl,_⟩ | ⟨_,_,rfl,_⟩<;>exact hk0.1.elim
     | enter f args =>
      simp only[hpo,h1]at hx
      cases cs with
      | nil=>simp at hx
      | cons v J =>
       simp only at hx
       cases D:exec P ms ops n os (put e o.dst p v) ks' J with
       | none=>simp[D]at hx
       | some z =>
        obtain⟨e1,L',S,T'⟩:=z
        simp only[D,aDe,aDm]at hx
        obtain⟨rfl,rfl,rfl,-⟩:=hx
        show aiw P ops Q (o::(os++rest)) a w
        unfold aiw
        by_cases hG:jZ e p=true
        .rw[aDb (hw.2 hG)]
         left
         have J:=Fa h1 (Std.act a) (gX hh o) hG hm (wz h1 hL hk0).1
         unfold Oper.wp
         rw[J]
         simp only[Oper.upon]
         refine(hO.1 w K01 hG).mono λS J hk=>?_
         obtain⟨rfl,hE⟩:=hk
         exact go v _ _ _ _ D hL hO.2 (λ_ _=>G) v J (by simp[den,hG]) hE (λ_ => .inr Y) (λh=>by cases h)
        .rw[aC9 (λh=>hG (hw.1 h))]
         exact go v _ _ _ _ D hL hO.2 (λ_ _=>G) undef w (by simp[den,hG]) K01 (λ_ => .inl I) (λh=>by cases h)
def aa9(D:List (Option Nat))(i:Nat)(J:List Edge)(s:Nat):Bool:=
 D.zipIdx.all λx=>x.1 != some s||(decide (x.2<i)&&J.any (λg=>g.on==x.2&&Region.binds .any g))
def slotsOf(ops:Array ahk)(o:ahk):List Nat:=
 o.op.operands.toList.filterMap (λx=>match x with | .tmp s=>some s | _=>none) ++
  (match o.guard with | some (g,_)=>(match (ops[g]?).bind (·.dst)with | some s=>[s] | none=>[]) | none=>[])
def sK(ops:Array ahk)(hd:List ahk):Bool:=
 hd.zipIdx.all λx=>x.1.dst.isSome&&(slotsOf ops x.1).all (aa9 (hd.map (·.dst)) x.2 x.1.after.toList)
abbrev zD{α:Type}{l:List α}{x:α}(h:l[i]?=some x):(x,i)∈l.zipIdx:=by
 rw[List.mem_zipIdx_iff_getElem?]; exact h
abbrev zG{D:List (Option Nat)}{J:List Edge}(h:aa9 D i J s=true){j:Nat}(S:D[j]?=some (some s)):j<i∧∃g∈J,g.on=j∧Region.binds .any g=true:=by
 unfold aa9 at h;rw[aDF]at h;have:=h _ (zD S);simp only[bne_self_eq_false,Bool.false_or,aDt,aDv,aF9,aDu]at this;obtain⟨D,g,J,S,h4⟩:=this;exact⟨D,g,J,S,h4⟩
def ZG(x:T3):Fact:=Rel.is (_root_.cond x.1 x.2.1 undef)
def Trk(hd:List ahk)(Ta:List T3)(e0:Env)(i:Nat)(e:Env):Prop:=∀s x,e.lookup s=some x ->
 (∃(j:Nat) (o:ahk),j<i∧hd[j]?=some o∧o.dst=some s∧∃k,Ta[j]?=some (jZ e x.1,x.2,k))∨((∀(j:Nat) (o:ahk),j<i->hd[j]?=some o->o.dst≠some s)∧e0.lookup s=some x)
theorem Trk.put{hd:List ahk}{Ta:List T3}{e0 e:Env}{i n:Nat}{p:qO}{v:aaT}{o:ahk}{d:Nat}{D:Bool}(h:Trk hd Ta e0 i e)(ho:hd[i]?=some o)(aa:o.dst=some d)(hT:Ta[i]?=some (jZ e p,v,D))(S:yF n e (some d) p=true) :
  Trk hd Ta e0 (i+1) (put e (some d) p v):=by
 obtain⟨_,J,h2⟩:=Lp S;intro s x S;by_cases hs:s=d
 .subst hs;simp only[Sx.put,aD5,aE3,aDe]at S;subst S;exact .inl ⟨i,o,Z,ho,aa,D,by rw[hT]; show some (jZ e p,v,D)=some (jZ (Sx.put e (some s) p v) p,v,D); rw[Ie J]⟩
 have D:(s==d)=false:=by simpa using hs
 simp only[Sx.put,aD5,D]at S;rcases h s x S with ⟨j,oj,hj,D,J,k,ab⟩ | ⟨ac,h0⟩
 .exact .inl ⟨j,oj,Z,D,J,k,by rw[ab]; show some (jZ e x.1,x.2,k)=some (jZ (Sx.put e (some d) p v) x.1,x.2,k); rw[Ie (h2 s x S)]⟩
 refine .inr ⟨λj oj hj D J=>?_,h0⟩;rcases aD7 j i with S | ae
 .exact ac j oj S D J
 obtain rfl:j=i:=by omega
 rw[ho]at D;obtain rfl:=aDo D;rw[aa]at J;exact hs (aDo J).symm
section
variable{P:ahe}{ms:List fE}{ops:Array ahk}{n:Nat}{hd:List ahk}{Ta:List T3}{e0:Env}{Eh:aGf->aaT}{w0:VO}
abbrev ao8{i:Nat}{e:Env}{o:ahk}{ρ:aGf->aaT}{w:VO}(ht:Trk hd Ta e0 i e)(S:hd[i]?=some o)(ac:∀(j:Nat) o,hd[j]?=some o->ops[j]?=some o)(J:sK ops hd=true)(h0:Holds Eh e0)(ah:∀s x,e0.lookup s=some x->x.1=[])
  (ae:Rel.Out hd ρ Eh) (ai:Rel.SK ops (Ta.map ZG) ρ w o.after.toList) {s:Nat} (hs:s∈slotsOf ops o):Rd1 ρ e (.tmp s):=by
 have key:∀es:List Edge,Rel.SK ops (Ta.map ZG) ρ w es->∀g∈es,Region.binds .any g=true->(Ta.map ZG).getD g.on top (Rel.valOf ρ ((ops[g.on]?).bind (·.dst))) w:=by
  intro es;induction es with
  | nil=>intro _ g hg; cases hg
  | cons x es ih =>
   intro h g hg hb;rcases aDp.1 hg with rfl | hg
   .exact h.1 hb
   exact ih h.2 g hg hb
 intro s' x D hl;obtain rfl:=Operand.tmp.inj D;unfold sK at J;rw[aDF]at J;have D:=J _ (zD S);simp only[aDt,aDF]at D;have h2:=D.2 s hs;rcases ht s x hl with ⟨j,oj,hj,J,D,k,af⟩ | ⟨ag,S⟩
 .have aa:(hd.map (·.dst))[j]?=some (some s):=by rw[List.getElem?_map,J,aD3,D]
  obtain⟨_,g,hg,rfl,hb⟩:=zG h2 aa;have S:=key _ ai g hg hb;rw[ac _ _ J]at S;simp only[aFi,D]at S;have e1:(Ta.map ZG).getD g.on top=ZG (jZ e x.1,x.2,k):=by simp[List.getD,List.getElem?_map,af]
  rw[e1]at S;exact S
 have ab:hd.all (λo => !(o.dst==some s))=true:=by
  rw[aDF];intro oj J;obtain⟨j,hj⟩:=List.getElem?_of_mem J;simp only[aEG,aDH];intro D;have aa:(hd.map (·.dst))[j]?=some (some s):=by rw[List.getElem?_map,hj,aD3,D]
  obtain⟨J,_⟩:=zG h2 aa;exact ag j oj J hj D
 rw[ae s ab,h0 s x S];unfold den;rw[ah s x S];rfl
abbrev yJ{o:ahk}{v:aaT}(h:o.dst.isSome=true):kept o v=v:=by
 unfold kept;cases hd:o.dst with
 | none=>rw[hd]at h; cases h
 | some _=>rfl
theorem Ls(ab:∀(j:Nat) o,hd[j]?=some o->ops[j]?=some o)(Fe:sK ops hd=true)(h0:Holds Eh e0)(ah:∀s x,e0.lookup s=some x->x.1=[])(hm:Mem w0 ms) :
  ∀(os:List ahk) (i:Nat) {e e':Env} {ks:List Key} {L:List Loc} {C:List ClD} {T:List T3} {cs:List aaT},hd.drop i=os->Ta.drop i=T->Trk hd Ta e0 i e->exec P ms ops n os e ks cs=some (e',L,C,T)->L=ks.map (wU ms)->zY P ks->Obl P w0 (C.map (·.1)) ->
  Rel.sO P ops hd (Ta.map ZG) Ext (λw=>Ext w0 w) Eh os (T.map ZG)
 | [],i,e,e',ks,L,C,T,cs,_,_,_,_,_,_,_=>by cases T<;>trivial
 | o::os,i,e,e',ks,L,C,T,cs,hos,hTa,ht,D,hL,hk0,hO=>by
  have ho:hd[i]?=some o:=by have:=aDc List.head? hos; simpa[List.head?_drop]using this
  have ai:hd.drop (i+1)=os:=by have:=aDc List.tail hos; simpa[List.tail_drop]using this
  have aa:o.dst.isSome=true:=by
   unfold sK at Fe
   rw[aDF]at Fe
   have h1:=Fe _ (zD ho)
   simp only[aDt]at h1
   exact h1.1
  obtain⟨d,hd1⟩:=aEq.1 aa
  unfold exec at D
  cases hp:pathOf ops e o with
  | none=>simp[hp]at D
  | some p =>
   simp only[hp]at D
   cases hpo:yF n e o.dst p with
   | false=>simp[hpo]at D
   | true =>
    cases h1:ev2 P ms e p ks o with
    | none=>simp[hpo,h1]at D
    | some r =>
     obtain⟨r,ks',L1⟩:=r
     have al:∀v S,(∀ρ w,Std ρ->Gm ρ e o->jZ e p=true->Ext w0 w->(∃J,ks=J++ks'∧L1=J.map (wU ms)∧zY P J)->Does P o ρ w (λu w'=>Ext w w'∧ZG (jZ e p,v,S) (kept o u) w'))->(∃J,ks=J++ks'∧L1=J.map (wU ms)∧zY P J) ->
       Rel.tV P ops hd (Ta.map ZG) Ext (λw=>Ext w0 w) Eh o (ZG (jZ e p,v,S)):=by
      intro v S an J ρ w hs ao hC hD
      have am:∀s∈slotsOf ops o,Rd1 ρ e (.tmp s):=λs S=>ao8 ht ho ab Fe h0 ah ao hD S
      have hR:Gm ρ e o:=by
       intro x D
       cases x with
       | tmp s =>
        refine am s (aFu _ ?_)
        rw[aEQ]
        exact⟨.tmp s,by simpa using D,I⟩
       | const _=>intro i y h; cases h
       | global _=>intro i y h; cases h
       | func _=>intro i y h; cases h
      cases hg:o.guard with
      | none =>
       unfold pathOf at hp
       rw[hg]at hp
       obtain rfl:=aDo hp
       exact an ρ w hs hR I hC J
      | some gb =>
       obtain⟨g,b⟩:=gb
       have ac:Rel.valOf ρ ((ops[g]?).bind (·.dst)) = .bool b↔jZ e p=true:=by
        unfold pathOf at hp
        rw[hg]at hp
        simp only at hp
        cases S:(ops[g]?).bind (·.dst)with
        | none=>simp[S]at hp
        | some s =>
         simp only[S]at hp
         have ap:Rd1 ρ e (.tmp s):=am s (aFb _ (by rw[hg]; simp[S]))
         cases hl:e.lookup s with
         | none=>simp[hl]at hp
         | some x =>
          obtain⟨q,u⟩:=x
          have S:=ap s _ I hl
          cases u<;>simp only[hl]at hp<;>try (cases hp)
          rename_i t
          show ρ (.tmp s)=_↔_
          rw[S,uN]
          unfold den tst
          rw[hl]
          simp only
          cases jZ e q<;>cases b<;>cases t<;>simp[undef]
       refine⟨λS=>an ρ w hs hR (ac.1 S) hC J,λS=>?_⟩
       have:jZ e p=false:=by
        cases h:jZ e p with
        | false=>rfl
        | true=>exact absurd (ac.2 h) S
       show undef=_root_.cond (jZ e p) v undef
       rw[this]; rfl
     cases r with
     | val v =>
      simp only[hpo,h1]at D
      cases hx':exec P ms ops n os (put e o.dst p v) ks' cs with
      | none=>simp[hx']at D
      | some z =>
       obtain⟨e1,L',C',T'⟩:=z
       simp only[hx',aDe,aDm]at D
       obtain⟨rfl,rfl,rfl,rfl⟩:=D
       obtain⟨J,af,ag⟩:=wz h1 hL hk0
       have S:Ta[i]?=some (jZ e p,v,true):=by have:=aDc List.head? hTa; simpa[List.head?_drop]using this
       have ae:Ta.drop (i+1)=T':=by have:=aDc List.tail hTa; simpa[List.tail_drop]using this
       refine⟨al v _ (λρ w hs hR hG hC hk=>?_) J,?_⟩
       .refine SQ (Fa h1 hs hR hG (hm.ext hC) hk) K01 ?_
        rw[yJ aa]
        show v=_root_.cond (jZ e p) v undef
        rw[hG]; rfl
       .rw[hd1]at hx' hpo
        exact Ls ab Fe h0 ah hm os (i+1) ai ae (ht.put ho hd1 S hpo) hx' af ag hO
     | new =>
      rcases RS (RU h1)with ⟨_,_,_,_,_,_,_,_,rfl,_⟩ | ⟨_,_,rfl,_⟩<;>exact hk0.1.elim
     | enter f args =>
      simp only[hpo,h1]at D
      cases cs with
      | nil=>simp at D
      | cons v cs' =>
       simp only at D
       cases hx':exec P ms ops n os (put e o.dst p v) ks' cs' with
       | none=>simp[hx']at D
       | some z =>
        obtain⟨e1,L',C',T'⟩:=z
        simp only[hx',aDe,aDm]at D
        obtain⟨rfl,rfl,rfl,rfl⟩:=D
        obtain⟨J,af,ag⟩:=wz h1 hL hk0
        have S:Ta[i]?=some (jZ e p,v,false):=by have:=aDc List.head? hTa; simpa[List.head?_drop]using this
        have ae:Ta.drop (i+1)=T':=by have:=aDc List.tail hTa; simpa[List.tail_drop]using this
        refine⟨al v _ (λρ w hs hR hG hC hk=>?_) J,?_⟩
        .refine Ei (Fa h1 hs hR hG (hm.ext hC) hk) ?_
         refine(hO.1 w hC hG).mono λJ w2 D=>?_
         obtain⟨rfl,J⟩:=D
         refine⟨v,I,J,?_⟩
         rw[yJ aa]
         show v=_root_.cond (jZ e p) v undef
         rw[hG]; rfl
        .rw[hd1]at hx' hpo
         exact Ls ab Fe h0 ah hm os (i+1) ai ae (ht.put ho hd1 S hpo) hx' af ag hO.2
end
theorem Ws{P:ahe}{ms:List fE}{ops:Array ahk}{n:Nat}{K:Act->Prop}{w:VO}:∀(os:List ahk) {e e':Env} {ks:List Key} {L:List Loc} {C:List ClD} {T:List T3} {cs:List aaT} {a:Act},
  exec P ms ops n os e ks cs=some (e',L,C,T)->a.tmps.size=n->Holds a.eval e->(∀S,S.tmps.size=n->S.defers=a.defers->Holds S.eval e'->K S)->Rel.End K w os (T.map ZG) a
 | [],e,e',ks,L,C,T,cs,a,hx,hsz,hh,hK=>by
  unfold exec at hx
  split at hx
  .simp only[aDe,aDm]at hx
   obtain⟨rfl,-,-,rfl⟩:=hx
   exact hK a hsz I hh
  .cases hx
 | o::os,e,e',ks,L,C,T,cs,a,hx,hsz,hh,hK=>by
  unfold exec at hx
  cases hp:pathOf ops e o with
  | none=>simp[hp]at hx
  | some p =>
   simp only[hp]at hx
   cases hpo:yF n e o.dst p with
   | false=>simp[hpo]at hx
   | true =>
    cases h1:ev2 P ms e p ks o with
    | none=>simp[hpo,h1]at hx
    | some r =>
     obtain⟨r,ks',D⟩:=r
     have go:∀v kk L' C' T' J,exec P ms ops n os (put e o.dst p v) ks' J=some (e',L',C',T')->Rel.End K w (o::os) (((jZ e p,v,kk)::T').map ZG) a:=by
      intro v kk L' C' T' J D u hu
      refine Ws os D (by rw[tX]; exact hsz) (EZ hh hsz hpo hu) λS h1 h2 h3=>hK S h1 (by rw[h2,put_defers]) h3
     cases r with
     | val v =>
      simp only[hpo,h1]at hx
      cases D:exec P ms ops n os (put e o.dst p v) ks' cs with
      | none=>simp[D]at hx
      | some z =>
       obtain⟨S,L',C',T'⟩:=z
       simp only[D,aDe,aDm]at hx
       obtain⟨rfl,rfl,rfl,rfl⟩:=hx
       exact go v _ _ _ _ _ D
     | new =>
      simp only[hpo,h1]at hx
      cases cs with
      | nil=>simp at hx
      | cons v J =>
       simp only at hx
       cases D:exec P ms ops n os (put e o.dst p v) ks' J with
       | none=>simp[D]at hx
       | some z =>
        obtain⟨S,L',C',T'⟩:=z
        simp only[D,aDe,aDm]at hx
        obtain⟨rfl,rfl,rfl,rfl⟩:=hx
        exact go v _ _ _ _ _ D
     | enter f args =>
      simp only[hpo,h1]at hx
      cases cs with
      | nil=>simp at hx
      | cons v J =>
       simp only at hx
       cases D:exec P ms ops n os (put e o.dst p v) ks' J with
       | none=>simp[D]at hx
       | some z =>
        obtain⟨S,L',C',T'⟩:=z
        simp only[D,aDe,aDm]at hx
        obtain⟨rfl,rfl,rfl,rfl⟩:=hx
        exact go v _ _ _ _ _ D
