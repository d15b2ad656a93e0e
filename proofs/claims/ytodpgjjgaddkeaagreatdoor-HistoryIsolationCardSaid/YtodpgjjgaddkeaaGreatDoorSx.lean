/- A walk by reckoning: the -/
import Derived.Test.YtodpgjjgaddkeaaGreatDoorPk2
set_option maxHeartbeats 9999999
open Go renaming World->E5,Value->y9,Program->Ë,Oper->YM,wpList->Ã,TypeId->Ð,execOp->Í,Operand->î
namespace Go.Sx
open Go.Proofs.Õ Go.RowKit Go.Rel
set_option linter.unusedVariables false
set_option linter.unusedSimpArgs false
abbrev L (l:List y9):List y9:=l
def zr:List y9:=[.z,.sn,.z,.sn]
def za:List y9:=zr++zr++zr++zr++zr++zr
def ev0{α:Type}(P:Ë):Sem α->Option α
 | .pure a=>some a
 | .program k=>ev0 P (k P)
 | .mark _ k=>ev0 P k
 | _=>none
theorem oI{α:Type}{P:Ë}{w:E5}:∀{s:Sem α} {x:α},ev0 P s=some x->s.run P w = .ok x w
 | .pure a,x,h=>by obtain rfl:=Ò h; rfl
 | .program k,x,h=>by
  show(k P).run P w=_
  exact oI (s:=k P) h
 | .mark _ k,x,h=>by
  show k.run P w=_
  exact oI (s:=k) h
 | .load ..,_,h=>by cases h
 | .store ..,_,h=>by cases h
 | .new ..,_,h=>by cases h
 | .shape ..,_,h=>by cases h
 | .freeze ..,_,h=>by cases h
 | .frozen ..,_,h=>by cases h
 | .getObj ..,_,h=>by cases h
 | .setObj ..,_,h=>by cases h
 | .choose ..,_,h=>by cases h
 | .sys ..,_,h=>by cases h
 | .halt ..,_,h=>by cases h
abbrev qU:=List (Nat×Bool)
abbrev Env:=List (Nat×qU×y9)
def tst(e:Env)(s:Nat)(b:Bool):Bool:=
 match e.lookup s with
 | some (_,.bool t)=>(match b with | true=>t | false => !t)
 | _=>false
def jP(e:Env):qU->Bool
 | []=>true
 | [p]=>tst e p.1 p.2
 | p::q::r=>jP e (q::r)&&tst e p.1 p.2
variable{e:Env}{p q:qU}{o:YM}{v:y9}{w:E5}{ρ:î->y9}{nw:Prop}{y c:î}{x lo mx:Option y9}{t:Ð}{d i b len k l h m s:Nat}{a:Act}{z:Int}
abbrev uY(e:Env)(p:Nat×Bool)(r:qU):jP e (p::r)=true↔jP e r=true∧tst e p.1 p.2=true:=by
 cases r with
 | nil=>simp[jP]
 | cons q r=>simp[jP]
theorem abq(e:Env):∀p:qU,jP e p=true↔∀c∈p,tst e c.1 c.2=true
 | []=>by simp[jP]
 | p::r=>by rw[uY,abq e r]; simp[and_comm]
abbrev akK(h:q.all (λc=>p.contains c)=true)(D:jP e p=true):jP e q=true:=by
 rw[abq]at D |-;intro c J;rw[ñ]at h;exact D c (by simpa using h c J)
def den(e:Env)(x:qU×y9):y9:=_root_.cond (jP e x.1) x.2 undef
def Holds(ρ:î->y9)(e:Env):Prop:=∀i x,e.lookup i=some x->ρ (.tmp i)=den e x
def rd(e:Env)(p:qU):î->Option y9
 | .tmp i=>match e.lookup i with | some (q,v)=>(match q.all (λc=>p.contains c)with | true=>some v | false=>none) | none=>none
 | .const v=>some v
 | .global g=>some (.q g 0)
 | .func f=>some (.func (.func f) #[] #[])
def zQ(e:Env)(p:qU)(x:î):y9:=(rd e p x).getD undef
def ŧ(ρ:î->y9)(e:Env)(x:î):Prop:=∀i y,x = .tmp i->e.lookup i=some y->ρ (.tmp i)=den e y
abbrev gB{x:î}(J:Std ρ)(h:ŧ ρ e x)(S:jP e p=true)(D:rd e p x=some v):ρ x=v:=by
 cases x with
 | const c=>rw[J.const]; exact Ò D
 | global g=>rw[J.global]; exact Ò D
 | func f=>rw[J.func]; exact Ò D
 | tmp i =>
  unfold rd at D;cases hl:e.lookup i with
  | none=>simp[hl]at D
  | some y =>
   obtain⟨q,u⟩:=y;dsimp only at D;rw[hl]at D;dsimp only at D;split at D
   .rename_i hq;obtain rfl:=Ò D;rw[h i _ I hl];unfold den;rw[akK hq S];rfl
   cases D
abbrev eX:=Nat×Nat×List y9
def Mem(w:E5)(ms:List eX):Prop:=∀m∈ms,m.1<w.heap.size∧w.rangeAt m.1 m.2.1 m.2.2
abbrev Mem.ext{w w':E5}{ms:List eX}(h:Mem w ms)(J:Ext w w'):Mem w' ms:=λm D =>
 ⟨ö (h m D).1 J.size,Vp.qP (h m D).2 (h m D).1 J⟩
def SB(P:Ë)(ty:Ð)(cs:List y9):Option y9:=
 match P.underlying ty,P.info? ty with
 | some t,some i=>match cs.length==i.size with
  | true=>(match t.isRow with
   | true=>some (.agg cs.toArray)
   | false=>(match cs with | [v]=>some v | _=>none))
  | false=>none
 | _,_=>none
def aup(P:Ë)(ty:Ð):Nat:=match P.info? ty with | some i=>i.size | none=>0
abbrev QY{P:Ë}{ty:Ð}{cs:List y9}{o:Nat}(h:SB P ty cs=some v)(J:w.rangeAt b o cs) :
  (Instr.loadAt ty (.q b o)).run P w = .ok v w:=by
 unfold SB at h;cases hu:P.underlying ty with
 | none=>simp[hu]at h
 | some t =>
  cases hi:P.info? ty with
  | none=>simp[hu,hi]at h
  | some i =>
   simp only[hu,hi]at h;cases hl:cs.length==i.size with
   | false=>simp[hl]at h
   | true =>
    simp only[hl]at h;have D:cs.length=i.size:=by simpa using hl
    cases ht:t.isRow with
    | true =>
     simp only[ht,Æ]at h;subst h;exact run_loadAt_mid w b o ty cs t J hu ht (by rw[hi]; simp[D])
    | false =>
     simp only[ht]at h;cases cs with
     | nil=>simp at h
     | cons c cs =>
      cases cs with
      | cons _ _=>simp at h
      | nil =>
       obtain rfl:=Ò h;exact Vp.abv (by have:=J 0 c I; simpa using this) hu ht
def part(ms:List eX)(k:Nat×Nat)(n:Nat):List y9:=match ms[k.1]? with | some m=>(m.2.2.drop k.2).take n | none=>[]
def ϵ(ms:List eX)(k:Nat×Nat):Nat×Nat:=match ms[k.1]? with | some m=>(m.1,m.2.1+k.2) | none=>(0,0)
inductive Key where
 | mem (k d:Nat)
 | idx (i len:Nat)
 | re (d:Nat) (v u:y9)
 | cmp (k:BinOp) (t:Ð) (ox oy:î) (x y:y9) (V:y9)
 | new (d:Nat) (A:List y9) (sh:Option Nat) (r:Nat)
 | υ (l:List (Nat×Nat))
 | dead (d:Nat) (v:y9)
 | hand (d:Nat) (kv:List (Nat×y9))
 | slc (l h m c:Nat)
@[match_pattern]abbrev Key.M(b o:Nat):Key:=.mem b o
def Ρ(D:Option Nat)(r:Nat):y9:=match D with | none => .q r 0 | some m => .slice (some ⟨r,0,none⟩) m m
inductive Loc where
 | mem (b o:Nat)
 | idx (z:Int) (len:Nat)
 | re (v:y9)
 | cmp (k:BinOp) (t:Ð) (ox oy:î) (x y:y9)
 | new (A:List y9) (v:y9)
 | υ (l:List (Nat×Nat))
 | dead
 | hand (l:List (Option y9))
 | slc (l h m:Int) (c:Nat)
def xq(ms:List eX):Key->Loc
 | .mem k d => .mem (ϵ ms (k,d)).1 (ϵ ms (k,d)).2
 | .idx i len => .idx (i:Int) len
 | .re _ v _ => .re v
 | .cmp k t ox oy x y _ => .cmp k t ox oy x y
 | .new _ A sh r => .new A (Ρ sh r)
 | .υ l => .υ (l.map (ϵ ms))
 | .dead _ _ => .dead
 | .hand _ kv => .hand (kv.map λp=>some p.2)
 | .slc l h m c => .slc (l:Int) (h:Int) (m:Int) c
def oz(nw:Prop)(P:Ë):List Key->Prop
 | []=>True
 | .mem _ _::r=>oz nw P r
 | .idx i len::r=>i<len∧oz nw P r
 | .re _ v u::r=>v=u∧oz nw P r
 | .new _ _ _ _::r=>nw∧oz nw P r
 | .υ _::r=>oz nw P r
 | .dead _ _::r=>oz nw P r
 | .hand _ _::r=>nw∧oz nw P r
 | .slc l h m c::r=>(l<=h∧h<=m∧m<=c)∧oz nw P r
 | .cmp k t ox oy x y V::r=>(∀w,(do eqGuard k t ox oy x y; binOp k t x y:Sem y9).run P w = .ok V w)∧oz nw P r
abbrev Ai (P:Ë)(k:List Key):Prop:=oz False P k
abbrev Ai.app{nw:Prop}{P:Ë}:∀{k r:List Key},oz nw P (k++r)->oz nw P k∧oz nw P r
 | [],_,h=>⟨G,h⟩
 | .mem _ _::k,r,h=>Ai.app (k:=k) h
 | .υ _::k,r,h=>Ai.app (k:=k) h
 | .dead _ _::k,r,h=>Ai.app (k:=k) h
 | .hand _ _::k,r,h=>⟨⟨h.1,(Ai.app (k:=k) h.2).1⟩,(Ai.app (k:=k) h.2).2⟩
 | .slc _ _ _ _::k,r,h=>⟨⟨h.1,(Ai.app (k:=k) h.2).1⟩,(Ai.app (k:=k) h.2).2⟩
 | .idx _ _::k,r,h=>⟨⟨h.1,(Ai.app (k:=k) h.2).1⟩,(Ai.app (k:=k) h.2).2⟩
 | .re _ _ _::k,r,h=>⟨⟨h.1,(Ai.app (k:=k) h.2).1⟩,(Ai.app (k:=k) h.2).2⟩
 | .new _ _ _ _::k,r,h=>⟨⟨h.1,(Ai.app (k:=k) h.2).1⟩,(Ai.app (k:=k) h.2).2⟩
 | .cmp _ _ _ _ _ _ _::k,r,h=>⟨⟨h.1,(Ai.app (k:=k) h.2).1⟩,(Ai.app (k:=k) h.2).2⟩
abbrev LU{ms:List eX}(h:Mem w ms)(k:Nat×Nat)(n:Nat):w.rangeAt (ϵ ms k).1 (ϵ ms k).2 (part ms k n):=by
 unfold part ϵ;cases hm:ms[k.1]? with
 | none=>intro j v D; simp at D
 | some m =>
  have:=(h m (List.mem_of_getElem? hm)).2;intro j v D;simp only at D |-;rw[List.getElem?_take]at D;split at D
  .rw[List.getElem?_drop]at D;have J:=this (k.2+j) v D;rwa [<-Ο]at J
  cases D
def PO{α:Type}(P:Ë)(ms:List eX):Sem α->List (Nat×Nat)->Option (α×List (Nat×Nat))
 | .pure a,[]=>some (a,[])
 | .program k,ks=>PO P ms (k P) ks
 | .mark _ k,ks=>PO P ms k ks
 | .load _ ⟨b,o,none⟩ k,q::ks=>(match part ms q 1 with
  | [v]=>(match PO P ms (k v) ks with | some (x,L)=>some (x,(b,o)::L) | none=>none)
  | _=>none)
 | _,_=>none
theorem Ik{α:Type}{P:Ë}{ms:List eX}{w:E5}(D:Mem w ms):∀{s:Sem α} {ks L:List (Nat×Nat)} {x:α},PO P ms s ks=some (x,L)->L=ks.map (ϵ ms)->s.run P w = .ok x w
 | .pure a,ks,L,x,h,hL=>by
  cases ks with
  | nil=>simp only[PO,Æ,Ê]at h; rw[<-h.1]; rfl
  | cons _ _=>simp[PO]at h
 | .program k,ks,L,x,h,hL=>by
  show(k P).run P w=_
  exact Ik D (s:=k P) (by cases ks<;>exact h) hL
 | .mark _ k,ks,L,x,h,hL=>by
  show k.run P w=_
  exact Ik D (s:=k) (by cases ks<;>exact h) hL
 | .load m a k,ks,L,x,h,hL=>by
  obtain⟨b,o,sp⟩:=a
  cases ks with
  | nil=>cases sp<;>simp[PO]at h
  | cons q ks =>
   cases sp with
   | some _=>simp[PO]at h
   | none =>
    unfold PO at h
    split at h
    .rename_i v hp
     split at h
     .rename_i x' L' hr
      simp only[Æ,Ê]at h
      obtain⟨rfl,rfl⟩:=h
      simp only[đ,Ă]at hL
      have J:=LU D q 1 0 v (by rw[hp]; rfl)
      rw[<-hL.1]at J
      simp only[ż]at J
      unfold Sem.run
      rw[J]
      exact Ik D hr hL.2
     .cases h
    .cases h
 | .store ..,ks,_,_,h,_=>by cases ks<;>simp[PO]at h
 | .new ..,ks,_,_,h,_=>by cases ks<;>simp[PO]at h
 | .shape ..,ks,_,_,h,_=>by cases ks<;>simp[PO]at h
 | .freeze ..,ks,_,_,h,_=>by cases ks<;>simp[PO]at h
 | .frozen ..,ks,_,_,h,_=>by cases ks<;>simp[PO]at h
 | .getObj ..,ks,_,_,h,_=>by cases ks<;>simp[PO]at h
 | .setObj ..,ks,_,_,h,_=>by cases ks<;>simp[PO]at h
 | .choose ..,ks,_,_,h,_=>by cases ks<;>simp[PO]at h
 | .sys ..,ks,_,_,h,_=>by cases ks<;>simp[PO]at h
 | .halt ..,ks,_,_,h,_=>by cases ks<;>simp[PO]at h
def Gv{α:Type}(P:Ë)(r:Nat):Sem α->Option (List y9×Ð×Sem α)
 | .new (.cells A ty fz) k=>(match fz==(0,0)with | true=>some (A.toList,ty,k r) | false=>none)
 | .program k=>Gv P r (k P)
 | .mark _ k=>Gv P r k
 | _=>none
theorem nK{α:Type}{P:Ë}{w:E5}{A:List y9}{ty:Ð}{k:Sem α}:∀{s:Sem α},Gv P w.heap.size s=some (A,ty,k)->s.run P w=k.run P (w.alloc (.cells A.toArray ty))
 | .new o k',h=>by
  cases o with
  | cells A' ty' fz =>
   unfold Gv at h
   split at h
   .rename_i hfz
    simp only[Æ,Ê]at h
    obtain⟨rfl,rfl,rfl⟩:=h
    have:fz=(0,0):=by simpa using hfz
    subst this
    rfl
   .cases h
  | _=>cases h
 | .program k',h=>nK (s:=k' P) h
 | .mark _ k',h=>nK (s:=k') h
 | .pure a,h=>by cases h
 | .load ..,h=>by cases h
 | .store ..,h=>by cases h
 | .shape ..,h=>by cases h
 | .freeze ..,h=>by cases h
 | .frozen ..,h=>by cases h
 | .getObj ..,h=>by cases h
 | .setObj ..,h=>by cases h
 | .choose ..,h=>by cases h
 | .sys ..,h=>by cases h
 | .halt ..,h=>by cases h
inductive GH where
 | val (v:y9)
 | enter (f:FuncId) (args:Array y9)
 | new
def jd:Option Next->Option GH
 | some (.value v)=>some (.val v)
 | some (.enter f args)=>some (.enter f args)
 | _=>none
def wP:Op->Bool
 | .select _ _=>true
 | _=>false
def apq:Option y9->Option y9->Option y9
 | some (.bool A),some (.bool B)=>some (.bool (A&&B))
 | _,_=>none
def orV:Option y9->Option y9->Option y9
 | some (.bool A),some (.bool B)=>some (.bool (A||B))
 | _,_=>none
def isF:î->Bool
 | .const (.z)=>true
 | _=>false
def isT:î->Bool
 | .const (.bool true)=>true
 | _=>false
def pk(e:Env)(p:qU)(c x y:î):Option y9:=
 match c with
 | .tmp s=>(match isF y with
  | true=>apq (rd e p (.tmp s)) (rd e ((s,true)::p) x)
  | false=>(match isT x with
   | true=>orV (rd e p (.tmp s)) (rd e ((s,false)::p) y)
   | false=>none))
 | _=>none
abbrev apr(h:isF y=true):y = .const (.z):=by
 cases y with
 | const v=>cases v with
  | bool b=>cases b with
   | false=>rfl
   | true=>cases h
  | _=>cases h
 | _=>cases h
abbrev aps(h:isT y=true):y = .const (.bool true):=by
 cases y with
 | const v=>cases v with
  | bool b=>cases b with
   | true=>rfl
   | false=>cases h
  | _=>cases h
 | _=>cases h
abbrev ad9{y:Option y9}(h:apq x y=some v):∃A B,x=some (.bool A)∧y=some (.bool B)∧v = .bool (A&&B):=by
 unfold apq at h;split at h
 .obtain rfl:=Ò h; exact⟨_,_,I,I,I⟩
 cases h
abbrev ail{y:Option y9}(h:orV x y=some v):∃A B,x=some (.bool A)∧y=some (.bool B)∧v = .bool (A||B):=by
 unfold orV at h;split at h
 .obtain rfl:=Ò h; exact⟨_,_,I,I,I⟩
 cases h
abbrev aea{P:Ë}{x:î}{A:Bool}{V:y9}(D:o.op = .pick c x y)(J:ρ c = .bool A)(S:(if A=true then ρ x else ρ y)=V):(Í ρ o).run P w = .ok (.value V) w:=by
 unfold Í;rw[D,<-S];simp[J,asBool,go_sem]
def ixv(P:Ë)(t:Ð)(x ix:Option y9):Option (Nat×Nat×Nat×Nat×Int):=
 match x,ix,P.underlying t with
 | some (.slice (some ⟨b,off,none⟩) len _),some (.int _ z),some (.slice e)=>(match P.info? e with | some i=>some (b,off,len,i.size,z) | none=>none)
 | _,_,_=>none
abbrev ain{P:Ë}{ix:Option y9}{off:Nat}(h:ixv P t x ix=some (b,off,len,k,z)) :
  ∃c kd e,x=some (.slice (some ⟨b,off,none⟩) len c)∧ix=some (.int kd z)∧P.underlying t=some (.slice e)∧(P.info? e).map (·.size)=some k:=by
 unfold ixv at h;split at h
 .rename_i b' off' len' c kd z' e hu;split at h
  .rename_i i hi;simp only[Æ,Ê]at h;obtain⟨rfl,rfl,rfl,rfl,rfl⟩:=h;exact⟨_,_,_,I,I,hu,by rw[hi]; rfl⟩
  cases h
 cases h
def um(a:Option Addr)(l m k:Nat):Option Addr:=if m=l then a else a.map (·.add (l*k))
abbrev aaP{P:Ë}{e:Ð}{a:Option Addr}{cap:Nat}(ht:P.underlying t=some (.slice e)){i:TypeInfo}(J:P.info? e=some i)(hk:i.size=k){D:Option y9}
  (J:lo=none∧l=0∨∃q,lo=some (.int q (l:Int))) (S:(D=none∧mx=none∧h=len)∨∃q,D=some (.int q (h:Int))) (aa:mx=none∧m=cap∨∃q,mx=some (.int q (m:Int))) (h1:l<=h) (h2:h<=m) (h3:m<=cap) :
  (Instr.sliceAt t (.slice a len cap) lo D mx).run P w = .ok (.slice (um a l m k) (h-l) (m-l)) w:=by
 subst hk;have D:((l:Int)<=h):=Z
 have D:((h:Int)<=m):=Z
 have D:((m:Int)<=cap):=Z
 have D:((h:Int)<=cap):=Z
 rcases J with ⟨rfl,rfl⟩ | ⟨D,rfl⟩<;>rcases S with ⟨rfl,rfl,rfl⟩ | ⟨D,rfl⟩<;>rcases aa with ⟨D,rfl⟩ | ⟨J,D⟩<;>subst_vars<;>first | (cases D; done) | skip
 all_goals simp_all [Instr.sliceAt,Instr.slice,run_underlying ht,Instr.sliceBounds,run_sliceBound,sizeOf,typeInfo,um]
def aio(d:Bool)(x:Option y9):Option y9:=match d with | true=>none | false=>x
def bnd(d:Bool)(x:Option y9)(z0:Int):Option Int:=match d with | true=>some z0 | false=>(match x with | some (.int _ z)=>some z | _=>none)
abbrev LV{d:Bool}{z0:Int}(h:bnd d x z0=some z):(d=true∧z=z0)∨(d=false∧∃q,x=some (.int q z)):=by
 unfold bnd at h;split at h
 .exact .inl ⟨I,(Ò h).symm⟩
 split at h
 .obtain rfl:=Ò h; exact .inr ⟨I,_,I⟩
 cases h
def apt(P:Ë)(t:Ð)(x lo S mx:Option y9)(dl D J:Bool)(l h m:Nat):Option (y9×Loc):=
 match x,P.underlying t with
 | some (.slice a len cap),some (.slice e)=>(match P.info? e,bnd dl lo 0,bnd D S len,bnd J mx cap,!D||J with
  | some i,some zl,some zh,some zm,true=>some (.slice (um a l m i.size) (h-l) (m-l),.slc zl zh zm cap)
  | _,_,_,_,_=>none)
 | _,_=>none
abbrev aip{P:Ë}{x:y9}{S:Option y9}{dl dh J:Bool}{c:Nat}(D:apt P t (some x) lo S mx dl dh J l h m=some (v,.slc (l:Int) (h:Int) (m:Int) c))(hk:l<=h∧h<=m∧m<=c) :
  (Instr.sliceAt t x (aio dl lo) (aio dh S) (aio J mx)).run P w = .ok v w:=by
 unfold apt at D;split at D
 .rename_i a len cap e hx hu;obtain rfl:=Ò hx;split at D
  .rename_i i zl zh zm hi' hl' hh' hm' hd;simp only[Æ,Ê,Loc.slc.injEq]at D;obtain⟨rfl,rfl,rfl,rfl,rfl⟩:=D;refine aaP hu hi' I ?_ ?_ ?_ hk.1 hk.2.1 hk.F
   .rcases LV hl' with ⟨rfl,h⟩ | ⟨rfl,q,rfl⟩
    .exact .inl ⟨I,Z⟩
    exact .inr ⟨q,I⟩
   .rcases LV hh' with ⟨rfl,h⟩ | ⟨rfl,q,rfl⟩
    .obtain rfl:J=true:=by simpa using hd
     exact .inl ⟨I,I,Z⟩
    exact .inr ⟨q,I⟩
   rcases LV hm' with ⟨rfl,h⟩ | ⟨rfl,q,rfl⟩
   .exact .inl ⟨I,Z⟩
   exact .inr ⟨q,I⟩
  cases D
 cases D
def ev1(P:Ë)(ms:List eX)(e:Env)(p:qU)(ks:List Key)(o:YM):Option (GH×List Key×List Loc):=
 match o.op with
 | .load ty x=>(match ks,rd e p x with
  | .mem k d::ks',some (.q b off)=>(match SB P ty (part ms (k,d) (aup P ty))with | some v=>some (.val v,ks',[.mem b off]) | none=>none)
  | _,_=>none)
 | .pick c x y=>(match pk e p c x y with | some v=>some (.val v,ks,[]) | none=>none)
 | .indexAddr t x ix=>(match ks,ixv P t (rd e p x) (rd e p ix)with
  | .idx i _::ks',some (b,off,len,k,z)=>some (.val (.pointer (some ⟨b,off+i*k,none⟩)),ks',[.idx z len])
  | _,_=>(match !(o.op.operands.all (λx=>(rd e p x).isSome))with
   | true=>none
   | false=>(match jd (ev0 P (Í (zQ e p) o))with | some r=>some (r,ks,[]) | none=>none)))
 | .binOp k t x y _=>(match ks,rd e p x,rd e p y with
  | .cmp _ _ _ _ _ _ V::ks',some u,some v=>some (.val V,ks',[.cmp k t x y u v])
  | _,some _,some _=>(match jd (ev0 P (Í (zQ e p) o))with | some r=>some (r,ks,[]) | none=>none)
  | _,_,_=>none)
 | op=>(match wP op || !op.operands.all (λx=>(rd e p x).isSome)with
  | true=>none
  | false=>(match ks with
   | .new d _ _ r0::ks'=>(match o.dst==some d with
    | true=>(match Gv P r0 (Í (zQ e p) o)with
     | some (A,_,k)=>(match jd (ev0 P k)with | some (.val v)=>some (.new,ks',[.new A v]) | _=>none)
     | none=>none)
    | false=>(match jd (ev0 P (Í (zQ e p) o))with | some r=>some (r,ks,[]) | none=>none))
   | .hand d kv::ks'=>(match o.dst==some d&&kv.all (λq=>o.op.operands.any λy=>match y with | .tmp s=>s==q.1 | _=>false)with | true=>some (.new,ks',[.hand (kv.map λq=>rd e p (.tmp q.1))]) | false=>(match jd (ev0 P (Í (zQ e p) o))with | some r=>some (r,ks,[]) | none=>none))
   | .slc l h m _::ks'=>(match op with
    | .slice t x lo hi mx=>(match apt P t (rd e p x) (lo.bind (rd e p)) (hi.bind (rd e p)) (mx.bind (rd e p)) lo.isNone hi.isNone mx.isNone l h m with | some (v,L)=>some (.val v,ks',[L]) | none=>none)
    | _=>(match jd (ev0 P (Í (zQ e p) o))with | some r=>some (r,ks,[]) | none=>none))
   | .υ l::ks'=>(match PO P ms (Í (zQ e p) o) l with
    | some (.value v,L)=>some (.val v,ks',[.υ L])
    | _=>none)
   | _=>(match jd (ev0 P (Í (zQ e p) o))with | some r=>some (r,ks,[]) | none=>none)))
def ren(d:Option Nat)(r:GH×List Key×List Loc):GH×List Key×List Loc:=
 match r with
 | (.val v,.re d' x u::ks,L)=>(match d==some d' with | true=>(.val u,ks,L++[.re v]) | false=>(.val v,.re d' x u::ks,L))
 | _=>r
def Gives(P:Ë)(ρ:î->y9)(w:E5)(o:YM):GH->Prop
 | .val v=>(Í ρ o).run P w = .ok (.value v) w
 | .enter f args=>(Í ρ o).run P w = .ok (.enter f args) w
 | .new=>True
def Gy(ρ:î->y9)(e:Env)(o:YM):Prop:=∀x∈o.op.operands,ŧ ρ e x
abbrev auq{x:î}(J:Std ρ)(hc:ŧ ρ e c)(hx:ŧ ρ e x)(hy:ŧ ρ e y)(hg:jP e p=true)(h:pk e p c x y=some v) :
  ∃A,ρ c = .bool A∧(if A=true then ρ x else ρ y)=v:=by
 have key:∀(s:Nat) (A:Bool) (b:Bool),rd e p (.tmp s)=some (.bool A)->A=b->jP e ((s,b)::p)=true:=by
  intro s A b D S;rw[uY];refine⟨hg,?_⟩;unfold rd at D;cases hl:e.lookup s with
  | none=>simp[hl]at D
  | some z =>
   obtain⟨q,u⟩:=z;dsimp only at D;rw[hl]at D;dsimp only at D;split at D
   .obtain rfl:=Ò D;unfold tst;rw[hl];subst S;cases A<;>rfl
   cases D
 unfold pk at h;split at h
 .rename_i s;split at h
  .rename_i hF;obtain⟨A,B,D,S,rfl⟩:=ad9 h;refine⟨A,gB J hc hg D,?_⟩;cases hA:A with
   | true=>rw[Á I,gB J hx (key s A true D hA) S]; rfl
   | false=>rw[UQ Y,apr hF,J.const]; rfl
  split at h
  .rename_i hT;obtain⟨A,B,D,S,rfl⟩:=ail h;refine⟨A,gB J hc hg D,?_⟩;cases hA:A with
   | true=>rw[Á I,aps hT,J.const]; rfl
   | false=>rw[UQ Y,gB J hy (key s A false D hA) S]; rfl
  cases h
 cases h
abbrev lN{P:Ë}{r:GH}(hs:Std ρ)(hR:Gy ρ e o)(hg:jP e p=true)(J:wP o.op=false)(h2:o.op.operands.all (λx=>(rd e p x).isSome)=true)
  (D:jd (ev0 P (Í (zQ e p) o))=some r):Gives P ρ w o r:=by
 have hc:Í ρ o=Í (zQ e p) o:=by
  refine execOp_congr o (λcs b S=>by rw[S]at J; cases J) λx S=>?_;rw[Κ]at h2;obtain⟨v,D⟩:=Į.1 (h2 x S);rw[gB hs (hR x S) hg D];simp[zQ,D]
 unfold jd at D;split at D
 .rename_i v J;obtain rfl:=Ò D;show(Í ρ o).run P w=_;rw[hc]; exact oI J
 .rename_i f args J;obtain rfl:=Ò D;show(Í ρ o).run P w=_;rw[hc]; exact oI J
 cases D
abbrev CP{k:Key}{ks' J:List Key}(h:k::ks'=J++ks'):J=[k]:=by
 have D:J.length=1:=by have:=Ñ List.length h; simp at this; omega
 match J,D with
 | [k2],_=>simp at h; rw[h]
abbrev aiq{P:Ë}{ms:List eX}{ks ks':List Key}{r:GH}{L:List Loc}
  (h:ev1 P ms e p ks o=some (r,ks',L)) (hs:Std ρ) (hR:Gy ρ e o) (hg:jP e p=true) (hm:Mem w ms) (hL:∃kl,ks=kl++ks'∧L=kl.map (xq ms)∧oz nw P kl):Gives P ρ w o r:=by
 unfold ev1 at h;split at h
 .rename_i ty x hop;split at h
  .rename_i k d ks1 b off hr;split at h
   .rename_i v hv;simp only[Æ,Ê]at h;obtain⟨rfl,rfl,rfl⟩:=h;obtain⟨kl,e1,S,_⟩:=hL;obtain rfl:=CP e1;simp only[đ,ĵ,xq,Ă,and_true,Loc.mem.injEq]at S;have hx:ρ x = .q b off:=gB hs (hR x (by simp[hop,Op.operands])) hg hr;have h1:=LU hm (k,d) (aup P ty);rw[<-S.1,<-S.2]at h1;have h2:=QY (w:=w) hv h1;show(Í ρ o).run P w=_;unfold Í;simp only[hop,hx,ġ,h2];rfl
   cases h
  cases h
 .rename_i c x y hop;split at h
  .rename_i v hv;simp only[Æ,Ê]at h;obtain⟨rfl,-,-⟩:=h;have D:∀z,z=c∨z=x∨z=y->ŧ ρ e z:=λz hz=>hR z (by rw[hop]; simp[Op.operands]; exact hz);obtain⟨A,h1,h2⟩:=auq hs (D c (.inl I)) (D x (.inr (.inl I))) (D y (.inr (.inr I))) hg hv;exact aea hop h1 h2
  cases h
 .rename_i t x ix hop;split at h
  .rename_i i n' ks1 b off len k z hix;simp only[Æ,Ê]at h;obtain⟨rfl,rfl,rfl⟩:=h;obtain⟨kl,e1,S,hk⟩:=hL;obtain rfl:=CP e1;simp only[đ,ĵ,xq,Ă,and_true,Loc.idx.injEq]at S;obtain⟨rfl,rfl⟩:=S;obtain⟨c,kd,e3,hx,hi,J,ae⟩:=ain hix;have D:∀z,z=x∨z=ix->ŧ ρ e z:=λz hz=>hR z (by rw[hop]; simp[Op.operands]; exact hz);exact Vp.ac7 i hop (gB hs (D x (.inl I)) hg hx) (gB hs (D ix (.inr I)) hg hi) hk.1 J ae
  split at h
  .cases h
  rename_i ah;split at h
  .rename_i r' hv;simp only[Æ,Ê]at h;obtain⟨rfl,-,-⟩:=h;exact lN hs hR hg (by rw[hop]; rfl) (by simpa using ah) hv
  cases h
 .rename_i k t x y yt hop;have D:∀z,z=x∨z=y->ŧ ρ e z:=λz hz=>hR z (by rw[hop]; simp[Op.operands]; exact hz);split at h
  .rename_i k' t' ox oy x' y' V ks1 u v J hv;simp only[Æ,Ê]at h;obtain⟨rfl,rfl,rfl⟩:=h;obtain⟨kl,e1,S,hk⟩:=hL;obtain rfl:=CP e1;simp only[đ,ĵ,xq,Ă,and_true,Loc.cmp.injEq]at S;obtain⟨rfl,rfl,rfl,rfl,rfl,rfl⟩:=S;have h1:=hk.1 w;show(Í ρ o).run P w=_;unfold Í;simp only[hop,gB hs (D x (.inl I)) hg J,gB hs (D y (.inr I)) hg hv];simp only[ġ]at h1 |-;rw[h1];rfl
  .rename_i J hv _;split at h
   .rename_i r' hr;simp only[Æ,Ê]at h;obtain⟨rfl,-,-⟩:=h;exact lN hs hR hg (by rw[hop]; rfl) (by rw[hop]; simp only[Op.operands]; simp[*]) hr
   cases h
  cases h
 split at h
 .cases h
 rename_i D;simp only[Ĕ]at D;split at h
 .split at h
  .split at h
   .split at h
    .simp only[Æ,Ê]at h;obtain⟨rfl,-,-⟩:=h;trivial
    cases h
   cases h
  split at h
  .rename_i r' hv;simp only[Æ,Ê]at h;obtain⟨rfl,-,-⟩:=h;exact lN hs hR hg D.1 (by simpa using D.2) hv
  cases h
 .split at h
  .simp only[Æ,Ê]at h;obtain⟨rfl,-,-⟩:=h;trivial
  split at h
  .rename_i r' hv;simp only[Æ,Ê]at h;obtain⟨rfl,-,-⟩:=h;exact lN hs hR hg D.1 (by simpa using D.2) hv
  cases h
 .rename_i l1 h1 m1 c1 ks1;split at h
  .rename_i t x lo hi mx hop;split at h
   .rename_i v L1 hsv;simp only[Æ,Ê]at h;obtain⟨rfl,rfl,rfl⟩:=h;obtain⟨kl,e1,S,hk⟩:=hL;obtain rfl:=CP e1;simp only[đ,ĵ,xq,Ă,and_true]at S;subst S;have aa:o.op = .slice t x lo hi mx:=by assumption
    have J:=D.2;rw[aa]at J;simp only[Op.operands,Ň,Array.all_append,Û,Κ,Option.mem_toArray]at J;have ab:∀y,(y=x∨lo=some y∨hi=some y∨mx=some y)->∃z,rd e p y=some z∧ρ y=z:=λy hy=>by
     have ac:(rd e p y).isSome=true:=by
      rcases hy with rfl | h | h | h
      .exact J.1.1.1 _ Y
      .exact J.1.1.2 _ (by simp[h])
      .exact J.1.2 _ (by simp[h])
      exact J.2 _ (by simp[h])
     obtain⟨z,hz⟩:=Į.1 ac;refine⟨z,hz,gB hs (hR y ?_) hg hz⟩;rw[aa];simp only[Op.operands,Array.mem_append,Option.mem_toArray];rcases hy with rfl | h | h | h
     .simp
     .simp[h]
     .simp[h]
     simp[h]
    obtain⟨J,af,ag⟩:=ab x (.inl I);have J:∀q:Option î,(∀y,q=some y->∃z,rd e p y=some z∧ρ y=z)->q.map ρ=aio q.isNone (q.bind (rd e p)):=λq hq=>by
     cases q with
     | none=>rfl
     | some y=>obtain⟨z,h1,h2⟩:=hq y I; simp[h1,h2,aio]
    show(Í ρ o).run P w=_;unfold Í;rw[af]at hsv;simp only[aa,ag,J lo λy h=>ab y (.inr (.inl h)),J hi λy h=>ab y (.inr (.inr (.inl h))),J mx λy h=>ab y (.inr (.inr (.inr h))),ġ,aip hsv hk.1];rfl
   cases h
  split at h
  .rename_i r' hv;simp only[Æ,Ê]at h;obtain⟨rfl,-,-⟩:=h;exact lN hs hR hg D.1 (by simpa using D.2) hv
  cases h
 .rename_i l1 ks1;split at h
  .rename_i v L1 hev;simp only[Æ,Ê]at h;obtain⟨rfl,rfl,rfl⟩:=h;obtain⟨kl,e1,S,_⟩:=hL;obtain rfl:=CP e1;simp only[đ,ĵ,xq,Ă,and_true,Loc.υ.injEq]at S;have J:Í ρ o=Í (zQ e p) o:=by
    refine execOp_congr o (λcs b e1=>by rw[e1]at D; cases D.1) λx hx=>?_;have h2:=D.2;simp only[Ň,Κ]at h2;obtain⟨z,hz⟩:=Į.1 (h2 x hx);rw[gB hs (hR x hx) hg hz];simp[zQ,hz]
   show(Í ρ o).run P w=_;rw[J];exact Ik hm hev S
  cases h
 split at h
 .rename_i r' hv;simp only[Æ,Ê]at h;obtain⟨rfl,-,-⟩:=h;exact lN hs hR hg D.1 (by simpa using D.2) hv
 cases h
abbrev Zz{P:Ë}{ms:List eX}{ks ks':List Key}{r:GH}{L:List Loc}(h:ev1 P ms e p ks o=some (r,ks',L)):∃D,ks=D++ks'∧L.length=D.length:=by
 have none:∀{J:GH} {k1:List Key},some (J,k1,([]:List Loc))=some (r,ks',L)->k1=ks->∃D,ks=D++ks'∧L.length=D.length:=by
  intro J k1 h hk;simp only[Æ,Ê]at h;obtain⟨-,rfl,rfl⟩:=h;exact⟨[],by simp[hk],I⟩
 unfold ev1 at h;split at h
 .split at h
  .split at h
   .simp only[Æ,Ê]at h;obtain⟨-,rfl,rfl⟩:=h;exact⟨[_],I,I⟩
   cases h
  cases h
 .split at h
  .exact none h I
  cases h
 .split at h
  .simp only[Æ,Ê]at h;obtain⟨-,rfl,rfl⟩:=h;exact⟨[_],I,I⟩
  split at h
  .cases h
  split at h
  .exact none h I
  cases h
 .split at h
  .simp only[Æ,Ê]at h;obtain⟨-,rfl,rfl⟩:=h;exact⟨[_],I,I⟩
  .split at h
   .exact none h I
   cases h
  cases h
 split at h
 .cases h
 split at h
 .split at h
  .split at h
   .split at h
    .simp only[Æ,Ê]at h;obtain⟨-,rfl,rfl⟩:=h;exact⟨[_],I,I⟩
    cases h
   cases h
  split at h
  .exact none h I
  cases h
 .split at h
  .simp only[Æ,Ê]at h;obtain⟨-,rfl,rfl⟩:=h;exact⟨[_],I,I⟩
  split at h
  .exact none h I
  cases h
 .split at h
  .split at h
   .simp only[Æ,Ê]at h;obtain⟨-,rfl,rfl⟩:=h;exact⟨[_],I,I⟩
   cases h
  split at h
  .exact none h I
  cases h
 .split at h
  .simp only[Æ,Ê]at h;obtain⟨-,rfl,rfl⟩:=h;exact⟨[_],I,I⟩
  cases h
 split at h
 .exact none h I
 cases h
abbrev Sv{P:Ë}{ms:List eX}{ks ks':List Key}{L:List Loc}(h:ev1 P ms e p ks o=some (.new,ks',L)) :
  (∃d A0 sh r0 A v ty k,ks = .new d A0 sh r0::ks'∧o.dst=some d∧L=[.new A v]∧Gv P r0 (Í (zQ e p) o)=some (A,ty,k)∧ev0 P k=some (.value v)∧wP o.op=false∧o.op.operands.all (λx=>(rd e p x).isSome)=true)∨∃d S,ks = .hand d S::ks'∧o.dst=some d∧L=[.hand (S.map λq=>rd e p (.tmp q.1))]∧∀q∈S,.tmp q.1∈o.op.operands:=by
 have J:∀{x:Option Next} {k1:List Key},(match jd x with | some r=>some (r,k1,([]:List Loc)) | none=>none)=some (.new,ks',L)->False:=by
  intro x k1 h;split at h
  .rename_i r hr;simp only[Æ,Ê]at h;obtain⟨rfl,-,-⟩:=h;unfold jd at hr;split at hr<;>cases hr
  cases h
 unfold ev1 at h;split at h
 .split at h
  .split at h<;>cases h
  cases h
 .split at h<;>cases h
 .split at h
  .cases h
  split at h
  .cases h
  exact(J h).elim
 .split at h
  .cases h
  .exact(J h).elim
  cases h
 split at h
 .cases h
 rename_i D;simp only[Ĕ]at D;split at h
 .rename_i d A0 sh r0 ks1;split at h
  .rename_i hdd;split at h
   .rename_i A ty k hev;split at h
    .rename_i v hv;simp only[Æ,Ê]at h;obtain⟨-,rfl,rfl⟩:=h;refine .inl ⟨d,A0,sh,r0,A,v,ty,k,I,by simpa using hdd,I,hev,?_,D.1,by simpa using D.2⟩;unfold jd at hv;split at hv
     .rename_i h2; obtain D:=Ò hv; rw[h2]; simp only[GH.val.injEq]at D; rw[D]
     .cases hv
     cases hv
    cases h
   cases h
  exact(J h).elim
 .rename_i d S ks1;split at h
  .rename_i hdd;simp only[Æ,Ê]at h;obtain⟨-,rfl,rfl⟩:=h;simp only[Û,ß,ñ]at hdd;refine .inr ⟨d,S,I,hdd.1,I,λq hq=>?_⟩;have D:=hdd.2 q hq;rw[Array.any_eq_true']at D;obtain⟨y,hy,S⟩:=D;cases y<;>simp at S;rw[<-S]; exact hy
  exact(J h).elim
 .split at h
  .split at h<;>cases h
  exact(J h).elim
 .split at h<;>cases h
 exact(J h).elim
def ο(P:Ë)(ms:List eX)(e:Env)(p:qU)(ks:List Key)(o:YM):Option (GH×List Key×List Loc):=
 match ev1 P ms e p ks o with
 | some r=>some (ren o.dst r)
 | none=>none
abbrev zD(d:Option Nat)(r:GH×List Key×List Loc):ren d r=r∨∃v D x u ks L,r=(.val v,.re D x u::ks,L)∧ren d r=(.val u,ks,L++[.re v]):=by
 unfold ren;split
 .rename_i v D x u ks L;split
  .exact .inr ⟨v,D,x,u,ks,L,I,I⟩
  exact .inl I
 exact .inl I
abbrev akL{P:Ë}{ms:List eX}{ks ks':List Key}{L:List Loc}(h:ο P ms e p ks o=some (.new,ks',L)):ev1 P ms e p ks o=some (.new,ks',L):=by
 unfold ο at h;cases h1:ev1 P ms e p ks o with
 | none=>simp[h1]at h
 | some r1 =>
  simp only[h1,Æ]at h;rcases zD o.dst r1 with D | ⟨v,d',x,u,J,L2,D,S⟩
  .rw[D]at h; rw[h]
  rw[S]at h; simp at h
abbrev akM{P:Ë}{ms:List eX}{ks ks':List Key}{r:GH}{L L':List Loc}(h:ο P ms e p ks o=some (r,ks',L))(hL:L++L'=ks.map (xq ms))(hk:oz nw P ks) :
  (∃D,ks=D++ks'∧L=D.map (xq ms)∧oz nw P D)∧L'=ks'.map (xq ms)∧oz nw P ks':=by
 have key:∃D,ks=D++ks'∧L.length=D.length:=by
  unfold ο at h;cases h1:ev1 P ms e p ks o with
  | none=>simp[h1]at h
  | some r1 =>
   simp only[h1,Æ]at h;obtain⟨r1,k1,L1⟩:=r1;obtain⟨D,S,hl⟩:=Zz h1;rcases zD o.dst (r1,k1,L1)with J | ⟨v,d',x,u,aa,L2,J,h3⟩
   .rw[J]at h;simp only[Ê]at h;obtain⟨-,rfl,rfl⟩:=h;exact⟨D,S,hl⟩
   rw[h3]at h;simp only[Ê]at h J;obtain⟨-,rfl,rfl⟩:=h;obtain⟨rfl,rfl,rfl⟩:=J;exact⟨D++[.re d' x u],by simp[S],by simp[hl]⟩
 obtain⟨D,rfl,hl⟩:=key;rw[Ħ]at hL;obtain⟨h1,J⟩:=List.append_inj hL (by simpa using hl);exact⟨⟨D,I,h1,(Ai.app hk).1⟩,J,(Ai.app hk).2⟩
abbrev apv{P:Ë}{ms:List eX}{ks ks':List Key}{r:GH}{L:List Loc}
  (h:ο P ms e p ks o=some (r,ks',L)) (hs:Std ρ) (hR:Gy ρ e o) (hg:jP e p=true) (hm:Mem w ms) (hL:∃J,ks=J++ks'∧L=J.map (xq ms)∧oz nw P J):Gives P ρ w o r:=by
 unfold ο at h;cases h1:ev1 P ms e p ks o with
 | none=>simp[h1]at h
 | some r1 =>
  simp only[h1,Æ]at h;obtain⟨r1,k1,L1⟩:=r1;rcases zD o.dst (r1,k1,L1)with D | ⟨v,d',x,u,S,L2,D,h3⟩
  .rw[D]at h;simp only[Ê]at h;obtain⟨rfl,rfl,rfl⟩:=h;exact aiq h1 hs hR hg hm hL
  rw[h3]at h;simp only[Ê]at h D;obtain⟨rfl,rfl,rfl⟩:=h;obtain⟨rfl,rfl,rfl⟩:=D;obtain⟨J,e1,e2,hk⟩:=hL;obtain⟨D,e3,e4⟩:=Zz h1;have e5:J=D++[.re d' x u]:=by
   have:J++S=(D++[.re d' x u])++S:=by rw[<-e1,e3]; simp
   exact List.append_cancel_right this
  subst e5;rw[Ħ]at e2;obtain⟨f1,J⟩:=List.append_inj e2 (by simpa using e4);simp only[đ,ĵ,xq,Ă,and_true,Loc.re.injEq]at J;obtain⟨g1,g2⟩:=Ai.app hk;have S:v=u:=J.trans g2.1;rw[<-S];exact aiq h1 hs hR hg hm ⟨D,e3,f1,g1⟩
def hd1(e:Env):qU->Bool
 | []=>true
 | c::_=>tst e c.1 c.2
abbrev akN(h:hd1 e p=false):jP e p=false:=by
 cases p with
 | nil=>cases h
 | cons c r =>
  cases hg:jP e (c::r)with
  | false=>rfl
  | true =>
   have D:=((uY e c r).1 hg).2;have h:tst e c.1 c.2=false:=h;rw[h]at D; cases D
def Ŧ(P:Ë)(ms:List eX)(e:Env)(p:qU)(ks:List Key)(o:YM):Option (GH×List Key×List Loc):=
 match ks with
 | .dead d v::r=>(match o.dst==some d with
  | true=>(match hd1 e p with | false=>some (.val v,r,[.dead]) | true=>none)
  | false=>ο P ms e p ks o)
 | _=>ο P ms e p ks o
abbrev zB{P:Ë}{ms:List eX}{ks ks':List Key}{r:GH}{L:List Loc}(h:Ŧ P ms e p ks o=some (r,ks',L)) :
  ο P ms e p ks o=some (r,ks',L)∨∃d v,ks = .dead d v::ks'∧r = .val v∧L=[.dead]∧jP e p=false:=by
 unfold Ŧ at h;split at h
 .rename_i d v r';split at h
  .split at h
   .rename_i hg;simp only[Æ,Ê]at h;obtain⟨rfl,rfl,rfl⟩:=h;exact .inr ⟨d,v,I,I,I,akN hg⟩
   cases h
  exact .inl h
 exact .inl h
abbrev Sz{P:Ë}{ms:List eX}{ks ks':List Key}{L:List Loc}(h:Ŧ P ms e p ks o=some (.new,ks',L)):ev1 P ms e p ks o=some (.new,ks',L):=by
 rcases zB h with h | ⟨_,_,_,h,_⟩
 .exact akL h
 cases h
abbrev wI{P:Ë}{ms:List eX}{ks ks':List Key}{r:GH}{L L':List Loc}(h:Ŧ P ms e p ks o=some (r,ks',L))(J:L++L'=ks.map (xq ms))(hk:oz nw P ks) :
  (∃D,ks=D++ks'∧L=D.map (xq ms)∧oz nw P D)∧L'=ks'.map (xq ms)∧oz nw P ks':=by
 rcases zB h with h | ⟨d,v,rfl,rfl,rfl,_⟩
 .exact akM h J hk
 simp only[Ĵ,Ģ,đ,Ă]at J;exact⟨⟨[.dead d v],I,I,G⟩,J.2,hk⟩
abbrev Fv{P:Ë}{ms:List eX}{ks ks':List Key}{r:GH}{L:List Loc}
  (h:Ŧ P ms e p ks o=some (r,ks',L)) (S:Std ρ) (hR:Gy ρ e o) (J:jP e p=true) (hm:Mem w ms) (hL:∃D,ks=D++ks'∧L=D.map (xq ms)∧oz nw P D):Gives P ρ w o r:=by
 rcases zB h with h | ⟨_,_,_,_,_,h⟩
 .exact apv h S hR J hm hL
 rw[J]at h; cases h
def pathOf(ops:Array YM)(e:Env)(o:YM):Option qU:=
 match o.guard with
 | none=>some []
 | some (g,b)=>match (ops[g]?).bind (·.dst)with
  | some s=>(match e.lookup s with | some (q,.bool _)=>some ((s,b)::q) | _=>none)
  | none=>none
def put(e:Env)(d:Option Nat)(p:qU)(v:y9):Env:=match d with | some d=>(d,p,v)::e | none=>e
def yL(n:Nat)(e:Env)(d:Option Nat)(p:qU):Bool:=
 match d with
 | some d=>decide (d<n)&&(p.all (λc=>c.1 != d)&&e.all (λx=>x.2.1.all (λc=>c.1 != d)))
 | none=>true
abbrev Cl:=FuncId×Array y9×Bool×y9
abbrev Ũ:=Cl×Option Nat×List Nat
abbrev T3:=Bool×y9×Bool
abbrev Out:=Env×List Loc×List Ũ×List T3
def waits(ops:Array YM)(o:YM):List Nat:=o.after.toList.filterMap λg=>match Region.binds .any g with | true=>(ops[g.on]?).bind (·.dst) | false=>none
def exec(P:Ë)(ms:List eX)(ops:Array YM)(n:Nat):List YM->Env->List Key->List y9->Option Out
 | [],e,ks,cs=>(match ks,cs with | [],[]=>some (e,[],[],[]) | _,_=>none)
 | o::os,e,ks,cs =>
  match pathOf ops e o with
  | none=>none
  | some p =>
   match yL n e o.dst p,Ŧ P ms e p ks o with
   | true,some (.val v,ks',L) =>
    (match exec P ms ops n os (put e o.dst p v) ks' cs with | some (e',L',C,T)=>some (e',L++L',C,(jP e p,v,true)::T) | none=>none)
   | true,some (.new,ks',L)=>(match cs with
    | v::cs'=>(match exec P ms ops n os (put e o.dst p v) ks' cs' with | some (e',L',C,T)=>some (e',L++L',C,(jP e p,v,false)::T) | none=>none)
    | []=>none)
   | true,some (.enter f args,ks',L)=>(match cs with
    | v::cs'=>(match exec P ms ops n os (put e o.dst p v) ks' cs' with | some (e',L',C,T)=>some (e',L++L',((f,args,jP e p,v),o.dst,waits ops o)::C,(jP e p,v,false)::T) | none=>none)
    | []=>none)
   | _,_=>none
def Ŷ(P:Ë)(w:E5):List Cl->Prop
 | []=>True
 | c::cs=>(∀w',Ext w w'->c.2.2.1=true->Calls P c.1 c.2.1 w' (λe D=>e = .returned c.2.2.2∧Ext w' D))∧Ŷ P w cs
abbrev Ŷ.ext{P:Ë}{w w':E5}:∀{C:List Cl},Ŷ P w C->Ext w w'->Ŷ P w' C
 | [],_,_=>trivial
 | _::_,h,hE=>⟨λD J=>h.1 D (Ip hE J),Ŷ.ext h.2 hE⟩
abbrev akO{b:Bool}(h:s≠d):tst (put e (some d) p v) s b=tst e s b:=by
 unfold tst put;rw[ĝ];have:(s==d)=false:=by simpa using h
 rw[this]
theorem PS{e D:Env}:∀{q:qU},(∀c∈q,tst e c.1 c.2=tst D c.1 c.2)->jP e q=jP D q
 | [],_=>rfl
 | [c],h=>by simp only[jP]; exact h c Y
 | c::c2::r,h=>by
  simp only[jP]
  rw[PS (q:=c2::r) (λx D=>h x (by simp at D |-; exact .inr D)),h c Y]
abbrev Il(h:q.all (λc=>c.1 != d)=true):jP (put e (some d) p v) q=jP e q:=
 PS λc D=>akO (by rw[ñ]at h; simpa using h c D)
abbrev NK{x:qU×y9}(h:e.lookup i=some x):(i,x)∈e:=by
 induction e with
 | nil=>simp at h
 | cons y e ih =>
  rw[ĝ]at h;by_cases hi:i=y.1
  .subst hi;simp only[Ų,Æ]at h;subst h; simp
  have D:(i==y.1)=false:=by simpa using hi
  rw[D]at h;exact ļ _ (ih h)
abbrev LW{n:Nat}(h:yL n e (some d) p=true):d<n∧p.all (λc=>c.1 != d)=true∧∀i x,e.lookup i=some x->x.1.all (λc=>c.1 != d)=true:=by
 simp only[yL,Û,Þ]at h;refine⟨h.1,h.2.1,λi x J=>?_⟩;have D:=h.F;rw[ñ]at D;exact D _ (NK J)
abbrev Fq{n:Nat}{d:Option Nat}{u:y9}(h:Holds a.eval e)(D:a.tmps.size=n)(hp:yL n e d p=true)(hu:u=den e (p,v)):Holds (a.put d u).eval (put e d p v):=by
 cases d with
 | none=>exact h
 | some d =>
  obtain⟨hd,J,S⟩:=LW hp;intro i x D;by_cases hi:i=d
  .subst hi;simp only[put,ĝ,Ų,Æ]at D;subst D;unfold den;rw[Il J];have J:i<a.tmps.size:=Z
   have:(a.put (some i) u).eval (.tmp i)=u:=by simp[Act.eval,Act.put,J]
   rw[this,hu]; rfl
  have J:(i==d)=false:=by simpa using hi
  simp only[put,ĝ,J]at D;rw[lH (pG a (some d) u i (λe=>hi (Ò e).symm)),h i x D];unfold den;rw[Il (S i x D)]
abbrev Wi{P:Ë}{next:Act->E5->Prop}{Q:Exit->Act->E5->Prop}(h:(Í a.eval o).run P w = .ok (.value v) w)(hn:next (a.put o.dst v) w):o.wp P a w next Q:=by
 unfold Oper.wp; rw[h]; exact hn
abbrev qh{ops:Array YM}(D:pathOf ops e o=some p)(h:∀x,(∃g,o.guard=some g∧(ops[g.1]?).bind (·.dst)=some x)->ŧ a.eval e (.tmp x)):Region.wanted o (yielded ops a.tmps)=true↔jP e p=true:=by
 unfold pathOf at D;cases hg:o.guard with
 | none =>
  rw[hg]at D;obtain rfl:=Ò D;simp[Region.wanted,hg,jP]
 | some gb =>
  obtain⟨g,b⟩:=gb;rw[hg]at D;simp only at D;cases hs:(ops[g]?).bind (·.dst)with
  | none=>simp[hs]at D
  | some s =>
   simp only[hs]at D;have hw:=AQ (ops:=ops) (a:=a) hg;rw[hs]at hw;rw[hw];have J:=h s ⟨_,hg,hs⟩;cases hl:e.lookup s with
   | none=>simp[hl]at D
   | some x =>
    obtain⟨q,u⟩:=x;have S:=J s _ I hl;cases u<;>simp only[hl]at D<;>try (cases D)
    rename_i t;show a.eval (.tmp s)=_↔_;rw[S,uY];unfold den tst;rw[hl];simp only;cases jP e q<;>cases b<;>cases t<;>simp[undef]
abbrev gG(h:Holds ρ e)(o:YM):Gy ρ e o:=λ_ _ i y _ hl=>h i y hl
theorem SA{P:Ë}{ms:List eX}{ops:Array YM}{n:Nat}{Q:Exit->Act->E5->Prop}{rest:List YM}:∀(os:List YM) {e e':Env} {ks:List Key} {L:List Loc} {C:List Ũ} {T:List T3} {cs:List y9} {a:Act} {w:E5},
  exec P ms ops n os e ks cs=some (e',L,C,T)->a.tmps.size=n->Holds a.eval e->Mem w ms->L=ks.map (xq ms)->Ai P ks->Ŷ P w (C.map (·.1)) ->
  (∀a' w',Ext w w'->(C=[]->w'=w)->a'.tmps.size=n->a'.defers=a.defers->Holds a'.eval e'->Ã P ops Q rest a' w')->Ã P ops Q (os++rest) a w
 | [],e,e',ks,L,C,T,cs,a,w,hx,hsz,hh,hm,hL,hk0,hO,hn=>by
  unfold exec at hx
  split at hx
  .simp only[Æ,Ê]at hx
   obtain⟨rfl,-,-,-⟩:=hx
   exact hn a w å (λ_=>I) hsz I hh
  .cases hx
 | o::os,e,e',ks,L,C,T,cs,a,w,hx,hsz,hh,hm,hL,hk0,hO,hn=>by
  unfold exec at hx
  cases hp:pathOf ops e o with
  | none=>simp[hp]at hx
  | some p =>
   simp only[hp]at hx
   have hw:=qh (a:=a) hp (λx _ i y _ hl=>hh i y hl)
   cases hpo:yL n e o.dst p with
   | false=>simp[hpo]at hx
   | true =>
    cases h1:Ŧ P ms e p ks o with
    | none=>simp[hpo,h1]at hx
    | some r =>
     obtain⟨r,ks',D⟩:=r
     have go:∀v (S:List Ũ) L' T' J,exec P ms ops n os (put e o.dst p v) ks' J=some (e',L',S,T')->D++L'=ks.map (xq ms)->Ŷ P w (S.map (·.1))->(S=[]->C=[]∨jP e p=true->True) ->
       ∀u w1,u=den e (p,v)->Ext w w1->(S=[]->w1=w∨C≠[])->(C=[]->S=[])->Ã P ops Q (os++rest) (a.put o.dst u) w1:=by
      intro v S L' T' J D al am _ u w1 hu hE an ab
      obtain⟨_,ah,ai⟩:=wI h1 al hk0
      refine SA os D (by rw[uw]; exact hsz) (Fq hh hsz hpo hu) (hm.ext hE) ah ai (am.ext hE) λa' w' ac ae aa af ag=>?_
      refine hn a' w' (Ip hE ac) (λhc=>?_) aa (by rw[af,put_defers]) ag
      rw[ae (ab hc)]
      rcases an (ab hc)with h | h
      .exact h
      .exact absurd hc h
     cases r with
     | val v =>
      simp only[hpo,h1]at hx
      cases D:exec P ms ops n os (put e o.dst p v) ks' cs with
      | none=>simp[D]at hx
      | some z =>
       obtain⟨e1,L',S,T'⟩:=z
       simp only[D,Æ,Ê]at hx
       obtain⟨rfl,rfl,rfl,-⟩:=hx
       show Ã P ops Q (o::(os++rest)) a w
       unfold Ã
       by_cases hG:jP e p=true
       .rw[Á (hw.2 hG)]
        left
        refine Wi (Fv h1 (Std.act a) (gG hh o) hG hm (wI h1 hL hk0).1) ?_
        exact go v _ _ _ _ D hL hO (λ_ _=>G) v w (by simp[den,hG]) å (λ_ => .inl I) (λh=>h)
       .rw[UQ (λh=>hG (hw.1 h))]
        exact go v _ _ _ _ D hL hO (λ_ _=>G) undef w (by simp[den,hG]) å (λ_ => .inl I) (λh=>h)
     | new =>
      rcases Sv (Sz h1)with ⟨_,_,_,_,_,_,_,_,rfl,_⟩ | ⟨_,_,rfl,_⟩<;>exact hk0.1.elim
     | enter f args =>
      simp only[hpo,h1]at hx
      cases cs with
      | nil=>simp at hx
      | cons v J =>
       simp only at hx
       cases D:exec P ms ops n os (put e o.dst p v) ks' J with
       | none=>simp[D]at hx
       | some z =>
        obtain⟨e1,L',S,T'⟩:=z
        simp only[D,Æ,Ê]at hx
        obtain⟨rfl,rfl,rfl,-⟩:=hx
        show Ã P ops Q (o::(os++rest)) a w
        unfold Ã
        by_cases hG:jP e p=true
        .rw[Á (hw.2 hG)]
         left
         have J:=Fv h1 (Std.act a) (gG hh o) hG hm (wI h1 hL hk0).1
         unfold Oper.wp
         rw[J]
         simp only[Oper.upon]
         refine(hO.1 w å hG).mono λJ w2 hk=>?_
         obtain⟨rfl,hE⟩:=hk
         exact go v _ _ _ _ D hL hO.2 (λ_ _=>G) v w2 (by simp[den,hG]) hE (λ_ => .inr Y) (λh=>by cases h)
        .rw[UQ (λh=>hG (hw.1 h))]
         exact go v _ _ _ _ D hL hO.2 (λ_ _=>G) undef w (by simp[den,hG]) å (λ_ => .inl I) (λh=>by cases h)
def abr(D:List (Option Nat))(i:Nat)(J:List Edge)(s:Nat):Bool:=
 D.zipIdx.all λx=>x.1 != some s||(decide (x.2<i)&&J.any (λg=>g.on==x.2&&Region.binds .any g))
def slotsOf(ops:Array YM)(o:YM):List Nat:=
 o.op.operands.toList.filterMap (λx=>match x with | .tmp s=>some s | _=>none) ++
  (match o.guard with | some (g,_)=>(match (ops[g]?).bind (·.dst)with | some s=>[s] | none=>[]) | none=>[])
def tq(ops:Array YM)(hd:List YM):Bool:=
 hd.zipIdx.all λx=>x.1.dst.isSome&&(slotsOf ops x.1).all (abr (hd.map (·.dst)) x.2 x.1.after.toList)
abbrev zI{α:Type}{l:List α}{x:α}(h:l[i]?=some x):(x,i)∈l.zipIdx:=by
 rw[List.mem_zipIdx_iff_getElem?]; exact h
abbrev zJ{D:List (Option Nat)}{J:List Edge}(h:abr D i J s=true){j:Nat}(S:D[j]?=some (some s)):j<i∧∃g∈J,g.on=j∧Region.binds .any g=true:=by
 unfold abr at h;rw[ñ]at h;have:=h _ (zI S);simp only[bne_self_eq_false,Bool.false_or,Û,Þ,List.any_eq_true,ß]at this;obtain⟨D,g,J,S,h4⟩:=this;exact⟨D,g,J,S,h4⟩
def ZV(x:T3):Fact:=Rel.is (_root_.cond x.1 x.2.1 undef)
def Ι(hd:List YM)(Ta:List T3)(e0:Env)(i:Nat)(e:Env):Prop:=∀s x,e.lookup s=some x ->
 (∃(j:Nat) (o:YM),j<i∧hd[j]?=some o∧o.dst=some s∧∃k,Ta[j]?=some (jP e x.1,x.2,k))∨((∀(j:Nat) (o:YM),j<i->hd[j]?=some o->o.dst≠some s)∧e0.lookup s=some x)
theorem Ι.put{hd:List YM}{Ta:List T3}{e0 e:Env}{i n:Nat}{p:qU}{v:y9}{o:YM}{d:Nat}{D:Bool}(h:Ι hd Ta e0 i e)(ho:hd[i]?=some o)(aa:o.dst=some d)(hT:Ta[i]?=some (jP e p,v,D))(S:yL n e (some d) p=true) :
  Ι hd Ta e0 (i+1) (put e (some d) p v):=by
 obtain⟨_,J,h2⟩:=LW S;intro s x S;by_cases hs:s=d
 .subst hs;simp only[Sx.put,ĝ,Ų,Æ]at S;subst S;exact .inl ⟨i,o,Z,ho,aa,D,by rw[hT]; show some (jP e p,v,D)=some (jP (Sx.put e (some s) p v) p,v,D); rw[Il J]⟩
 have D:(s==d)=false:=by simpa using hs
 simp only[Sx.put,ĝ,D]at S;rcases h s x S with ⟨j,oj,hj,D,J,k,ab⟩ | ⟨ac,h0⟩
 .exact .inl ⟨j,oj,Z,D,J,k,by rw[ab]; show some (jP e x.1,x.2,k)=some (jP (Sx.put e (some d) p v) x.1,x.2,k); rw[Il (h2 s x S)]⟩
 refine .inr ⟨λj oj hj D J=>?_,h0⟩;rcases ĩ j i with S | ae
 .exact ac j oj S D J
 obtain rfl:j=i:=by omega
 rw[ho]at D;obtain rfl:=Ò D;rw[aa]at J;exact hs (Ò J).symm
section
variable{P:Ë}{ms:List eX}{ops:Array YM}{n:Nat}{hd:List YM}{Ta:List T3}{e0:Env}{Es:î->y9}{w0:E5}
abbrev apw{i:Nat}{e:Env}{o:YM}{ρ:î->y9}{w:E5}(ht:Ι hd Ta e0 i e)(S:hd[i]?=some o)(ac:∀(j:Nat) o,hd[j]?=some o->ops[j]?=some o)(J:tq ops hd=true)(h0:Holds Es e0)(ah:∀s x,e0.lookup s=some x->x.1=[])
  (ae:Rel.Out hd ρ Es) (ai:Rel.SS ops (Ta.map ZV) ρ w o.after.toList) {s:Nat} (hs:s∈slotsOf ops o):ŧ ρ e (.tmp s):=by
 have key:∀es:List Edge,Rel.SS ops (Ta.map ZV) ρ w es->∀g∈es,Region.binds .any g=true->(Ta.map ZV).getD g.on top (Rel.valOf ρ ((ops[g.on]?).bind (·.dst))) w:=by
  intro es;induction es with
  | nil=>intro _ g hg; cases hg
  | cons x es ih =>
   intro h g hg hb;rcases Ù.1 hg with rfl | hg
   .exact h.1 hb
   exact ih h.2 g hg hb
 intro s' x D hl;obtain rfl:=Operand.tmp.inj D;unfold tq at J;rw[ñ]at J;have D:=J _ (zI S);simp only[Û,ñ]at D;have h2:=D.2 s hs;rcases ht s x hl with ⟨j,oj,hj,J,D,k,af⟩ | ⟨ag,S⟩
 .have aa:(hd.map (·.dst))[j]?=some (some s):=by rw[List.getElem?_map,J,ě,D]
  obtain⟨_,g,hg,rfl,hb⟩:=zJ h2 aa;have S:=key _ ai g hg hb;rw[ac _ _ J]at S;simp only[Α,D]at S;have e1:(Ta.map ZV).getD g.on top=ZV (jP e x.1,x.2,k):=by simp[List.getD,List.getElem?_map,af]
  rw[e1]at S;exact S
 have ab:hd.all (λo => !(o.dst==some s))=true:=by
  rw[ñ];intro oj J;obtain⟨j,hj⟩:=List.getElem?_of_mem J;simp only[Ŏ,õ];intro D;have aa:(hd.map (·.dst))[j]?=some (some s):=by rw[List.getElem?_map,hj,ě,D]
  obtain⟨J,_⟩:=zJ h2 aa;exact ag j oj J hj D
 rw[ae s ab,h0 s x S];unfold den;rw[ah s x S];rfl
abbrev yQ{o:YM}{v:y9}(h:o.dst.isSome=true):kept o v=v:=by
 unfold kept;cases hd:o.dst with
 | none=>rw[hd]at h; cases h
 | some _=>rfl
theorem LX(ab:∀(j:Nat) o,hd[j]?=some o->ops[j]?=some o)(FB:tq ops hd=true)(h0:Holds Es e0)(ah:∀s x,e0.lookup s=some x->x.1=[])(hm:Mem w0 ms) :
  ∀(os:List YM) (i:Nat) {e e':Env} {ks:List Key} {L:List Loc} {C:List Ũ} {T:List T3} {cs:List y9},hd.drop i=os->Ta.drop i=T->Ι hd Ta e0 i e->exec P ms ops n os e ks cs=some (e',L,C,T)->L=ks.map (xq ms)->Ai P ks->Ŷ P w0 (C.map (·.1)) ->
  Rel.qW P ops hd (Ta.map ZV) Ext (λw=>Ext w0 w) Es os (T.map ZV)
 | [],i,e,e',ks,L,C,T,cs,_,_,_,_,_,_,_=>by cases T<;>trivial
 | o::os,i,e,e',ks,L,C,T,cs,hos,hTa,ht,D,hL,hk0,hO=>by
  have ho:hd[i]?=some o:=by have:=Ñ List.head? hos; simpa[List.head?_drop]using this
  have ai:hd.drop (i+1)=os:=by have:=Ñ List.tail hos; simpa[List.tail_drop]using this
  have aa:o.dst.isSome=true:=by
   unfold tq at FB
   rw[ñ]at FB
   have h1:=FB _ (zI ho)
   simp only[Û]at h1
   exact h1.1
  obtain⟨d,hd1⟩:=Į.1 aa
  unfold exec at D
  cases hp:pathOf ops e o with
  | none=>simp[hp]at D
  | some p =>
   simp only[hp]at D
   cases hpo:yL n e o.dst p with
   | false=>simp[hpo]at D
   | true =>
    cases h1:Ŧ P ms e p ks o with
    | none=>simp[hpo,h1]at D
    | some r =>
     obtain⟨r,ks',L1⟩:=r
     have al:∀v S,(∀ρ w,Std ρ->Gy ρ e o->jP e p=true->Ext w0 w->(∃J,ks=J++ks'∧L1=J.map (xq ms)∧Ai P J)->Does P o ρ w (λu w'=>Ext w w'∧ZV (jP e p,v,S) (kept o u) w'))->(∃J,ks=J++ks'∧L1=J.map (xq ms)∧Ai P J) ->
       Rel.uq P ops hd (Ta.map ZV) Ext (λw=>Ext w0 w) Es o (ZV (jP e p,v,S)):=by
      intro v S an J ρ w hs ao hC hD
      have am:∀s∈slotsOf ops o,ŧ ρ e (.tmp s):=λs S=>apw ht ho ab FB h0 ah ao hD S
      have hR:Gy ρ e o:=by
       intro x D
       cases x with
       | tmp s =>
        refine am s (ū _ ?_)
        rw[ő]
        exact⟨.tmp s,by simpa using D,I⟩
       | const _=>intro i y h; cases h
       | global _=>intro i y h; cases h
       | func _=>intro i y h; cases h
      cases hg:o.guard with
      | none =>
       unfold pathOf at hp
       rw[hg]at hp
       obtain rfl:=Ò hp
       exact an ρ w hs hR I hC J
      | some gb =>
       obtain⟨g,b⟩:=gb
       have ac:Rel.valOf ρ ((ops[g]?).bind (·.dst)) = .bool b↔jP e p=true:=by
        unfold pathOf at hp
        rw[hg]at hp
        simp only at hp
        cases S:(ops[g]?).bind (·.dst)with
        | none=>simp[S]at hp
        | some s =>
         simp only[S]at hp
         have ap:ŧ ρ e (.tmp s):=am s (ś _ (by rw[hg]; simp[S]))
         cases hl:e.lookup s with
         | none=>simp[hl]at hp
         | some x =>
          obtain⟨q,u⟩:=x
          have S:=ap s _ I hl
          cases u<;>simp only[hl]at hp<;>try (cases hp)
          rename_i t
          show ρ (.tmp s)=_↔_
          rw[S,uY]
          unfold den tst
          rw[hl]
          simp only
          cases jP e q<;>cases b<;>cases t<;>simp[undef]
       refine⟨λS=>an ρ w hs hR (ac.1 S) hC J,λS=>?_⟩
       have:jP e p=false:=by
        cases h:jP e p with
        | false=>rfl
        | true=>exact absurd (ac.2 h) S
       show undef=_root_.cond (jP e p) v undef
       rw[this]; rfl
     cases r with
     | val v =>
      simp only[hpo,h1]at D
      cases hx':exec P ms ops n os (put e o.dst p v) ks' cs with
      | none=>simp[hx']at D
      | some z =>
       obtain⟨e1,L',C',T'⟩:=z
       simp only[hx',Æ,Ê]at D
       obtain⟨rfl,rfl,rfl,rfl⟩:=D
       obtain⟨J,af,ag⟩:=wI h1 hL hk0
       have S:Ta[i]?=some (jP e p,v,true):=by have:=Ñ List.head? hTa; simpa[List.head?_drop]using this
       have ae:Ta.drop (i+1)=T':=by have:=Ñ List.tail hTa; simpa[List.tail_drop]using this
       refine⟨al v _ (λρ w hs hR hG hC hk=>?_) J,?_⟩
       .refine xA (Fv h1 hs hR hG (hm.ext hC) hk) å ?_
        rw[yQ aa]
        show v=_root_.cond (jP e p) v undef
        rw[hG]; rfl
       .rw[hd1]at hx' hpo
        exact LX ab FB h0 ah hm os (i+1) ai ae (ht.put ho hd1 S hpo) hx' af ag hO
     | new =>
      rcases Sv (Sz h1)with ⟨_,_,_,_,_,_,_,_,rfl,_⟩ | ⟨_,_,rfl,_⟩<;>exact hk0.1.elim
     | enter f args =>
      simp only[hpo,h1]at D
      cases cs with
      | nil=>simp at D
      | cons v cs' =>
       simp only at D
       cases hx':exec P ms ops n os (put e o.dst p v) ks' cs' with
       | none=>simp[hx']at D
       | some z =>
        obtain⟨e1,L',C',T'⟩:=z
        simp only[hx',Æ,Ê]at D
        obtain⟨rfl,rfl,rfl,rfl⟩:=D
        obtain⟨J,af,ag⟩:=wI h1 hL hk0
        have S:Ta[i]?=some (jP e p,v,false):=by have:=Ñ List.head? hTa; simpa[List.head?_drop]using this
        have ae:Ta.drop (i+1)=T':=by have:=Ñ List.tail hTa; simpa[List.tail_drop]using this
        refine⟨al v _ (λρ w hs hR hG hC hk=>?_) J,?_⟩
        .refine Et (Fv h1 hs hR hG (hm.ext hC) hk) ?_
         refine(hO.1 w hC hG).mono λJ w2 D=>?_
         obtain⟨rfl,J⟩:=D
         refine⟨v,I,J,?_⟩
         rw[yQ aa]
         show v=_root_.cond (jP e p) v undef
         rw[hG]; rfl
        .rw[hd1]at hx' hpo
         exact LX ab FB h0 ah hm os (i+1) ai ae (ht.put ho hd1 S hpo) hx' af ag hO.2
end
theorem WS{P:Ë}{ms:List eX}{ops:Array YM}{n:Nat}{K:Act->Prop}{w:E5}:∀(os:List YM) {e e':Env} {ks:List Key} {L:List Loc} {C:List Ũ} {T:List T3} {cs:List y9} {a:Act},
  exec P ms ops n os e ks cs=some (e',L,C,T)->a.tmps.size=n->Holds a.eval e->(∀S,S.tmps.size=n->S.defers=a.defers->Holds S.eval e'->K S)->Rel.End K w os (T.map ZV) a
 | [],e,e',ks,L,C,T,cs,a,hx,hsz,hh,hK=>by
  unfold exec at hx
  split at hx
  .simp only[Æ,Ê]at hx
   obtain⟨rfl,-,-,rfl⟩:=hx
   exact hK a hsz I hh
  .cases hx
 | o::os,e,e',ks,L,C,T,cs,a,hx,hsz,hh,hK=>by
  unfold exec at hx
  cases hp:pathOf ops e o with
  | none=>simp[hp]at hx
  | some p =>
   simp only[hp]at hx
   cases hpo:yL n e o.dst p with
   | false=>simp[hpo]at hx
   | true =>
    cases h1:Ŧ P ms e p ks o with
    | none=>simp[hpo,h1]at hx
    | some r =>
     obtain⟨r,ks',D⟩:=r
     have go:∀v kk L' C' T' J,exec P ms ops n os (put e o.dst p v) ks' J=some (e',L',C',T')->Rel.End K w (o::os) (((jP e p,v,kk)::T').map ZV) a:=by
      intro v kk L' C' T' J D u hu
      refine WS os D (by rw[uw]; exact hsz) (Fq hh hsz hpo hu) λS h1 h2 h3=>hK S h1 (by rw[h2,put_defers]) h3
     cases r with
     | val v =>
      simp only[hpo,h1]at hx
      cases D:exec P ms ops n os (put e o.dst p v) ks' cs with
      | none=>simp[D]at hx
      | some z =>
       obtain⟨S,L',C',T'⟩:=z
       simp only[D,Æ,Ê]at hx
       obtain⟨rfl,rfl,rfl,rfl⟩:=hx
       exact go v _ _ _ _ _ D
     | new =>
      simp only[hpo,h1]at hx
      cases cs with
      | nil=>simp at hx
      | cons v J =>
       simp only at hx
       cases D:exec P ms ops n os (put e o.dst p v) ks' J with
       | none=>simp[D]at hx
       | some z =>
        obtain⟨S,L',C',T'⟩:=z
        simp only[D,Æ,Ê]at hx
        obtain⟨rfl,rfl,rfl,rfl⟩:=hx
        exact go v _ _ _ _ _ D
     | enter f args =>
      simp only[hpo,h1]at hx
      cases cs with
      | nil=>simp at hx
      | cons v J =>
       simp only at hx
       cases D:exec P ms ops n os (put e o.dst p v) ks' J with
       | none=>simp[D]at hx
       | some z =>
        obtain⟨S,L',C',T'⟩:=z
        simp only[D,Æ,Ê]at hx
        obtain⟨rfl,rfl,rfl,rfl⟩:=hx
        exact go v _ _ _ _ _ D
abbrev _root_.Go.iW:=IntKind.i64.wrap
abbrev _root_.Go.kS(d k:Nat):Go.Sx.Key:=.re d (.i (Go.iW ((k:Int)+1))) (.i (k+1:Nat))
