/- A walk by reckoning: the -/
import Derived.Test.YtodpgjjgaddkeaaGreatDoorPk2
set_option maxHeartbeats 9999999
open Go renaming World->Á,Value->À,Program->Ø,Oper->Ì,wpList->Ð,TypeId->á,execOp->Ù,Operand->ö
namespace Go.Sx
open Go.Proofs.Pv Go.RowKit Go.Rel
set_option linter.unusedVariables false
set_option linter.unusedSimpArgs false
abbrev L (l:List À):List À:=l
def zr:List À:=[.z,.sn,.z,.sn]
def za:List À:=zr++zr++zr++zr++zr++zr
def ev0{α:Type}(P:Ø):Sem α->Option α
 | .pure a=>some a
 | .program k=>ev0 P (k P)
 | .mark _ k=>ev0 P k
 | _=>none
theorem nY{α:Type}{P:Ø}{w:Á}:∀{s:Sem α} {x:α},ev0 P s=some x->s.run P w = .ok x w
 | .pure a,x,h=>by obtain rfl:=Ü h; rfl
 | .program k,x,h=>by
  show(k P).run P w=_
  exact nY (s:=k P) h
 | .mark _ k,x,h=>by
  show k.run P w=_
  exact nY (s:=k) h
 | .load ..,_,h=>by cases h
 | .store ..,_,h=>by cases h
 | .new ..,_,h=>by cases h
 | .shape ..,_,h=>by cases h
 | .freeze ..,_,h=>by cases h
 | .frozen ..,_,h=>by cases h
 | .getObj ..,_,h=>by cases h
 | .setObj ..,_,h=>by cases h
 | .choose ..,_,h=>by cases h
 | .sys ..,_,h=>by cases h
 | .halt ..,_,h=>by cases h
abbrev qJ:=List (Nat×Bool)
abbrev Env:=List (Nat×qJ×À)
def tst(e:Env)(s:Nat)(b:Bool):Bool:=
 match e.lookup s with
 | some (_,.bool t)=>(match b with | true=>t | false => !t)
 | _=>false
def jL(e:Env):qJ->Bool
 | []=>true
 | [p]=>tst e p.1 p.2
 | p::q::r=>jL e (q::r)&&tst e p.1 p.2
variable{e:Env}{p q:qJ}{o:Ì}{v:À}{w:Á}{ρ:ö->À}{nw:Prop}{y c:ö}{x lo mx:Option À}{t:á}{d i b len k l h m s:Nat}{a:Act}{z:Int}
abbrev uK(e:Env)(p:Nat×Bool)(r:qJ):jL e (p::r)=true↔jL e r=true∧tst e p.1 p.2=true:=by
 cases r with
 | nil=>simp[jL]
 | cons q r=>simp[jL]
theorem ZG(e:Env):∀p:qJ,jL e p=true↔∀c∈p,tst e c.1 c.2=true
 | []=>by simp[jL]
 | p::r=>by rw[uK,ZG e r]; simp[and_comm]
abbrev aiN(h:q.all (λc=>p.contains c)=true)(hp:jL e p=true):jL e q=true:=by
 rw[ZG]at hp |-;intro c hc;rw[ø]at h;exact hp c (by simpa using h c hc)
def den(e:Env)(x:qJ×À):À:=_root_.cond (jL e x.1) x.2 undef
def Holds(ρ:ö->À)(e:Env):Prop:=∀i x,e.lookup i=some x->ρ (.tmp i)=den e x
def rd(e:Env)(p:qJ):ö->Option À
 | .tmp i=>match e.lookup i with | some (q,v)=>(match q.all (λc=>p.contains c)with | true=>some v | false=>none) | none=>none
 | .const v=>some v
 | .global g=>some (.q g 0)
 | .func f=>some (.func (.func f) #[] #[])
def zi(e:Env)(p:qJ)(x:ö):À:=(rd e p x).getD undef
def ZH(ρ:ö->À)(e:Env)(x:ö):Prop:=∀i y,x = .tmp i->e.lookup i=some y->ρ (.tmp i)=den e y
abbrev gK{x:ö}(hs:Std ρ)(h:ZH ρ e x)(hg:jL e p=true)(hr:rd e p x=some v):ρ x=v:=by
 cases x with
 | const c=>rw[hs.const]; exact Ü hr
 | global g=>rw[hs.global]; exact Ü hr
 | func f=>rw[hs.func]; exact Ü hr
 | tmp i =>
  unfold rd at hr;cases hl:e.lookup i with
  | none=>simp[hl]at hr
  | some y =>
   obtain⟨q,u⟩:=y;dsimp only at hr;rw[hl]at hr;dsimp only at hr;split at hr
   .rename_i hq;obtain rfl:=Ü hr;rw[h i _ I hl];unfold den;rw[aiN hq hg];rfl
   cases hr
abbrev eU:=Nat×Nat×List À
def Mem(w:Á)(ms:List eU):Prop:=∀m∈ms,m.1<w.heap.size∧w.rangeAt m.1 m.2.1 m.2.2
abbrev Mem.ext{w w':Á}{ms:List eU}(h:Mem w ms)(hE:Ext w w'):Mem w' ms:=λm hm =>
 ⟨ā (h m hm).1 hE.size,Vp.qG (h m hm).2 (h m hm).1 hE⟩
def Qm(P:Ø)(ty:á)(cs:List À):Option À:=
 match P.underlying ty,P.info? ty with
 | some t,some i=>match cs.length==i.size with
  | true=>(match t.isRow with
   | true=>some (.agg cs.toArray)
   | false=>(match cs with | [v]=>some v | _=>none))
  | false=>none
 | _,_=>none
def ao6(P:Ø)(ty:á):Nat:=match P.info? ty with | some i=>i.size | none=>0
abbrev O8{P:Ø}{ty:á}{cs:List À}{o:Nat}(h:Qm P ty cs=some v)(hr:w.rangeAt b o cs) :
  (Instr.loadAt ty (.q b o)).run P w = .ok v w:=by
 unfold Qm at h;cases hu:P.underlying ty with
 | none=>simp[hu]at h
 | some t =>
  cases hi:P.info? ty with
  | none=>simp[hu,hi]at h
  | some i =>
   simp only[hu,hi]at h;cases hl:cs.length==i.size with
   | false=>simp[hl]at h
   | true =>
    simp only[hl]at h;have hl':cs.length=i.size:=by simpa using hl
    cases ht:t.isRow with
    | true =>
     simp only[ht,Ò]at h;subst h;exact run_loadAt_mid w b o ty cs t hr hu ht (by rw[hi]; simp[hl'])
    | false =>
     simp only[ht]at h;cases cs with
     | nil=>simp at h
     | cons c cs =>
      cases cs with
      | cons _ _=>simp at h
      | nil =>
       obtain rfl:=Ü h;exact Vp.ZM (by have:=hr 0 c I; simpa using this) hu ht
def part(ms:List eU)(k:Nat×Nat)(n:Nat):List À:=match ms[k.1]? with | some m=>(m.2.2.drop k.2).take n | none=>[]
def adp(ms:List eU)(k:Nat×Nat):Nat×Nat:=match ms[k.1]? with | some m=>(m.1,m.2.1+k.2) | none=>(0,0)
inductive Key where
 | mem (k d:Nat)
 | idx (i len:Nat)
 | re (d:Nat) (v u:À)
 | cmp (k:BinOp) (t:á) (ox oy:ö) (x y:À) (V:À)
 | new (d:Nat) (A:List À) (sh:Option Nat) (r:Nat)
 | ϥ (l:List (Nat×Nat))
 | dead (d:Nat) (v:À)
 | hand (d:Nat) (kv:List (Nat×À))
 | slc (l h m c:Nat)
@[match_pattern]abbrev Key.M(b o:Nat):Key:=.mem b o
def Z5(sh:Option Nat)(r:Nat):À:=match sh with | none => .q r 0 | some m => .slice (some ⟨r,0,none⟩) m m
inductive Loc where
 | mem (b o:Nat)
 | idx (z:Int) (len:Nat)
 | re (v:À)
 | cmp (k:BinOp) (t:á) (ox oy:ö) (x y:À)
 | new (A:List À) (v:À)
 | ϥ (l:List (Nat×Nat))
 | dead
 | hand (l:List (Option À))
 | slc (l h m:Int) (c:Nat)
def wJ(ms:List eU):Key->Loc
 | .mem k d => .mem (adp ms (k,d)).1 (adp ms (k,d)).2
 | .idx i len => .idx (i:Int) len
 | .re _ v _ => .re v
 | .cmp k t ox oy x y _ => .cmp k t ox oy x y
 | .new _ A sh r => .new A (Z5 sh r)
 | .ϥ l => .ϥ (l.map (adp ms))
 | .dead _ _ => .dead
 | .hand _ kv => .hand (kv.map λp=>some p.2)
 | .slc l h m c => .slc (l:Int) (h:Int) (m:Int) c
def nT(nw:Prop)(P:Ø):List Key->Prop
 | []=>True
 | .mem _ _::r=>nT nw P r
 | .idx i len::r=>i<len∧nT nw P r
 | .re _ v u::r=>v=u∧nT nw P r
 | .new _ _ _ _::r=>nw∧nT nw P r
 | .ϥ _::r=>nT nw P r
 | .dead _ _::r=>nT nw P r
 | .hand _ _::r=>nw∧nT nw P r
 | .slc l h m c::r=>(l<=h∧h<=m∧m<=c)∧nT nw P r
 | .cmp k t ox oy x y V::r=>(∀w,(do eqGuard k t ox oy x y; binOp k t x y:Sem À).run P w = .ok V w)∧nT nw P r
abbrev zG (P:Ø)(k:List Key):Prop:=nT False P k
abbrev zG.app{nw:Prop}{P:Ø}:∀{k r:List Key},nT nw P (k++r)->nT nw P k∧nT nw P r
 | [],_,h=>⟨G,h⟩
 | .mem _ _::k,r,h=>zG.app (k:=k) h
 | .ϥ _::k,r,h=>zG.app (k:=k) h
 | .dead _ _::k,r,h=>zG.app (k:=k) h
 | .hand _ _::k,r,h=>⟨⟨h.1,(zG.app (k:=k) h.2).1⟩,(zG.app (k:=k) h.2).2⟩
 | .slc _ _ _ _::k,r,h=>⟨⟨h.1,(zG.app (k:=k) h.2).1⟩,(zG.app (k:=k) h.2).2⟩
 | .idx _ _::k,r,h=>⟨⟨h.1,(zG.app (k:=k) h.2).1⟩,(zG.app (k:=k) h.2).2⟩
 | .re _ _ _::k,r,h=>⟨⟨h.1,(zG.app (k:=k) h.2).1⟩,(zG.app (k:=k) h.2).2⟩
 | .new _ _ _ _::k,r,h=>⟨⟨h.1,(zG.app (k:=k) h.2).1⟩,(zG.app (k:=k) h.2).2⟩
 | .cmp _ _ _ _ _ _ _::k,r,h=>⟨⟨h.1,(zG.app (k:=k) h.2).1⟩,(zG.app (k:=k) h.2).2⟩
abbrev Kt{ms:List eU}(h:Mem w ms)(k:Nat×Nat)(n:Nat):w.rangeAt (adp ms k).1 (adp ms k).2 (part ms k n):=by
 unfold part adp;cases hm:ms[k.1]? with
 | none=>intro j v hj; simp at hj
 | some m =>
  have:=(h m (List.mem_of_getElem? hm)).2;intro j v hj;simp only at hj |-;rw[List.getElem?_take]at hj;split at hj
  .rw[List.getElem?_drop]at hj;have h1:=this (k.2+j) v hj;rwa [<-Ξ]at h1
  cases hj
def NC{α:Type}(P:Ø)(ms:List eU):Sem α->List (Nat×Nat)->Option (α×List (Nat×Nat))
 | .pure a,[]=>some (a,[])
 | .program k,ks=>NC P ms (k P) ks
 | .mark _ k,ks=>NC P ms k ks
 | .load _ ⟨b,o,none⟩ k,q::ks=>(match part ms q 1 with
  | [v]=>(match NC P ms (k v) ks with | some (x,L)=>some (x,(b,o)::L) | none=>none)
  | _=>none)
 | _,_=>none
theorem GY{α:Type}{P:Ø}{ms:List eU}{w:Á}(hm:Mem w ms):∀{s:Sem α} {ks L:List (Nat×Nat)} {x:α},NC P ms s ks=some (x,L)->L=ks.map (adp ms)->s.run P w = .ok x w
 | .pure a,ks,L,x,h,hL=>by
  cases ks with
  | nil=>simp only[NC,Ò,Ô]at h; rw[<-h.1]; rfl
  | cons _ _=>simp[NC]at h
 | .program k,ks,L,x,h,hL=>by
  show(k P).run P w=_
  exact GY hm (s:=k P) (by cases ks<;>exact h) hL
 | .mark _ k,ks,L,x,h,hL=>by
  show k.run P w=_
  exact GY hm (s:=k) (by cases ks<;>exact h) hL
 | .load m a k,ks,L,x,h,hL=>by
  obtain⟨b,o,sp⟩:=a
  cases ks with
  | nil=>cases sp<;>simp[NC]at h
  | cons q ks =>
   cases sp with
   | some _=>simp[NC]at h
   | none =>
    unfold NC at h
    split at h
    .rename_i v hp
     split at h
     .rename_i x' L' hr
      simp only[Ò,Ô]at h
      obtain⟨rfl,rfl⟩:=h
      simp only[Ē,ģ]at hL
      have h1:=Kt hm q 1 0 v (by rw[hp]; rfl)
      rw[<-hL.1]at h1
      simp only[Λ]at h1
      unfold Sem.run
      rw[h1]
      exact GY hm hr hL.2
     .cases h
    .cases h
 | .store ..,ks,_,_,h,_=>by cases ks<;>simp[NC]at h
 | .new ..,ks,_,_,h,_=>by cases ks<;>simp[NC]at h
 | .shape ..,ks,_,_,h,_=>by cases ks<;>simp[NC]at h
 | .freeze ..,ks,_,_,h,_=>by cases ks<;>simp[NC]at h
 | .frozen ..,ks,_,_,h,_=>by cases ks<;>simp[NC]at h
 | .getObj ..,ks,_,_,h,_=>by cases ks<;>simp[NC]at h
 | .setObj ..,ks,_,_,h,_=>by cases ks<;>simp[NC]at h
 | .choose ..,ks,_,_,h,_=>by cases ks<;>simp[NC]at h
 | .sys ..,ks,_,_,h,_=>by cases ks<;>simp[NC]at h
 | .halt ..,ks,_,_,h,_=>by cases ks<;>simp[NC]at h
def Fh{α:Type}(P:Ø)(r:Nat):Sem α->Option (List À×á×Sem α)
 | .new (.cells A ty fz) k=>(match fz==(0,0)with | true=>some (A.toList,ty,k r) | false=>none)
 | .program k=>Fh P r (k P)
 | .mark _ k=>Fh P r k
 | _=>none
theorem nD{α:Type}{P:Ø}{w:Á}{A:List À}{ty:á}{k:Sem α}:∀{s:Sem α},Fh P w.heap.size s=some (A,ty,k)->s.run P w=k.run P (w.alloc (.cells A.toArray ty))
 | .new o k',h=>by
  cases o with
  | cells A' ty' fz =>
   unfold Fh at h
   split at h
   .rename_i hfz
    simp only[Ò,Ô]at h
    obtain⟨rfl,rfl,rfl⟩:=h
    have:fz=(0,0):=by simpa using hfz
    subst this
    rfl
   .cases h
  | _=>cases h
 | .program k',h=>nD (s:=k' P) h
 | .mark _ k',h=>nD (s:=k') h
 | .pure a,h=>by cases h
 | .load ..,h=>by cases h
 | .store ..,h=>by cases h
 | .shape ..,h=>by cases h
 | .freeze ..,h=>by cases h
 | .frozen ..,h=>by cases h
 | .getObj ..,h=>by cases h
 | .setObj ..,h=>by cases h
 | .choose ..,h=>by cases h
 | .sys ..,h=>by cases h
 | .halt ..,h=>by cases h
inductive FH where
 | val (v:À)
 | enter (f:FuncId) (args:Array À)
 | new
def iT:Option Next->Option FH
 | some (.value v)=>some (.val v)
 | some (.enter f args)=>some (.enter f args)
 | _=>none
def vT:Op->Bool
 | .select _ _=>true
 | _=>false
def amF:Option À->Option À->Option À
 | some (.bool A),some (.bool B)=>some (.bool (A&&B))
 | _,_=>none
def orV:Option À->Option À->Option À
 | some (.bool A),some (.bool B)=>some (.bool (A||B))
 | _,_=>none
def isF:ö->Bool
 | .const (.z)=>true
 | _=>false
def isT:ö->Bool
 | .const (.bool true)=>true
 | _=>false
def pk(e:Env)(p:qJ)(c x y:ö):Option À:=
 match c with
 | .tmp s=>(match isF y with
  | true=>amF (rd e p (.tmp s)) (rd e ((s,true)::p) x)
  | false=>(match isT x with
   | true=>orV (rd e p (.tmp s)) (rd e ((s,false)::p) y)
   | false=>none))
 | _=>none
abbrev amG(h:isF y=true):y = .const (.z):=by
 cases y with
 | const v=>cases v with
  | bool b=>cases b with
   | false=>rfl
   | true=>cases h
  | _=>cases h
 | _=>cases h
abbrev amH(h:isT y=true):y = .const (.bool true):=by
 cases y with
 | const v=>cases v with
  | bool b=>cases b with
   | true=>rfl
   | false=>cases h
  | _=>cases h
 | _=>cases h
abbrev ab9{y:Option À}(h:amF x y=some v):∃A B,x=some (.bool A)∧y=some (.bool B)∧v = .bool (A&&B):=by
 unfold amF at h;split at h
 .obtain rfl:=Ü h; exact⟨_,_,I,I,I⟩
 cases h
abbrev agt{y:Option À}(h:orV x y=some v):∃A B,x=some (.bool A)∧y=some (.bool B)∧v = .bool (A||B):=by
 unfold orV at h;split at h
 .obtain rfl:=Ü h; exact⟨_,_,I,I,I⟩
 cases h
abbrev acd{P:Ø}{x:ö}{A:Bool}{V:À}(hop:o.op = .pick c x y)(hc:ρ c = .bool A)(hV:(if A=true then ρ x else ρ y)=V):(Ù ρ o).run P w = .ok (.value V) w:=by
 unfold Ù;rw[hop,<-hV];simp[hc,asBool,go_sem]
def ixv(P:Ø)(t:á)(x ix:Option À):Option (Nat×Nat×Nat×Nat×Int):=
 match x,ix,P.underlying t with
 | some (.slice (some ⟨b,off,none⟩) len _),some (.int _ z),some (.slice e)=>(match P.info? e with | some i=>some (b,off,len,i.size,z) | none=>none)
 | _,_,_=>none
abbrev agu{P:Ø}{ix:Option À}{off:Nat}(h:ixv P t x ix=some (b,off,len,k,z)) :
  ∃c kd e,x=some (.slice (some ⟨b,off,none⟩) len c)∧ix=some (.int kd z)∧P.underlying t=some (.slice e)∧(P.info? e).map (·.size)=some k:=by
 unfold ixv at h;split at h
 .rename_i b' off' len' c kd z' e hu;split at h
  .rename_i i hi;simp only[Ò,Ô]at h;obtain⟨rfl,rfl,rfl,rfl,rfl⟩:=h;exact⟨_,_,_,I,I,hu,by rw[hi]; rfl⟩
  cases h
 cases h
def sO(a:Option Addr)(l m k:Nat):Option Addr:=if m=l then a else a.map (·.add (l*k))
abbrev Y8{P:Ø}{e:á}{a:Option Addr}{cap:Nat}(ht:P.underlying t=some (.slice e)){i:TypeInfo}(hi:P.info? e=some i)(hk:i.size=k){hi':Option À}
  (hlo:lo=none∧l=0∨∃q,lo=some (.int q (l:Int))) (hhi:(hi'=none∧mx=none∧h=len)∨∃q,hi'=some (.int q (h:Int))) (hmx:mx=none∧m=cap∨∃q,mx=some (.int q (m:Int))) (h1:l<=h) (h2:h<=m) (h3:m<=cap) :
  (Instr.sliceAt t (.slice a len cap) lo hi' mx).run P w = .ok (.slice (sO a l m k) (h-l) (m-l)) w:=by
 subst hk;have e1:((l:Int)<=h):=Z
 have e2:((h:Int)<=m):=Z
 have e3:((m:Int)<=cap):=Z
 have e4:((h:Int)<=cap):=Z
 rcases hlo with ⟨rfl,rfl⟩ | ⟨q1,rfl⟩<;>rcases hhi with ⟨rfl,rfl,rfl⟩ | ⟨q2,rfl⟩<;>rcases hmx with ⟨hm,rfl⟩ | ⟨q3,hm⟩<;>subst_vars<;>first | (cases hm; done) | skip
 all_goals simp_all [Instr.sliceAt,Instr.slice,run_underlying ht,Instr.sliceBounds,run_sliceBound,sizeOf,typeInfo,sO]
def agv(d:Bool)(x:Option À):Option À:=match d with | true=>none | false=>x
def bnd(d:Bool)(x:Option À)(z0:Int):Option Int:=match d with | true=>some z0 | false=>(match x with | some (.int _ z)=>some z | _=>none)
abbrev Ku{d:Bool}{z0:Int}(h:bnd d x z0=some z):(d=true∧z=z0)∨(d=false∧∃q,x=some (.int q z)):=by
 unfold bnd at h;split at h
 .exact .inl ⟨I,(Ü h).symm⟩
 split at h
 .obtain rfl:=Ü h; exact .inr ⟨I,_,I⟩
 cases h
def amI(P:Ø)(t:á)(x lo hi mx:Option À)(dl dh dm:Bool)(l h m:Nat):Option (À×Loc):=
 match x,P.underlying t with
 | some (.slice a len cap),some (.slice e)=>(match P.info? e,bnd dl lo 0,bnd dh hi len,bnd dm mx cap,!dh||dm with
  | some i,some zl,some zh,some zm,true=>some (.slice (sO a l m i.size) (h-l) (m-l),.slc zl zh zm cap)
  | _,_,_,_,_=>none)
 | _,_=>none
abbrev agw{P:Ø}{x:À}{hi:Option À}{dl dh dm:Bool}{c:Nat}(hv:amI P t (some x) lo hi mx dl dh dm l h m=some (v,.slc (l:Int) (h:Int) (m:Int) c))(hk:l<=h∧h<=m∧m<=c) :
  (Instr.sliceAt t x (agv dl lo) (agv dh hi) (agv dm mx)).run P w = .ok v w:=by
 unfold amI at hv;split at hv
 .rename_i a len cap e hx hu;obtain rfl:=Ü hx;split at hv
  .rename_i i zl zh zm hi' hl' hh' hm' hd;simp only[Ò,Ô,Loc.slc.injEq]at hv;obtain⟨rfl,rfl,rfl,rfl,rfl⟩:=hv;refine Y8 hu hi' I ?_ ?_ ?_ hk.1 hk.2.1 hk.2.2
   .rcases Ku hl' with ⟨rfl,h⟩ | ⟨rfl,q,rfl⟩
    .exact .inl ⟨I,Z⟩
    exact .inr ⟨q,I⟩
   .rcases Ku hh' with ⟨rfl,h⟩ | ⟨rfl,q,rfl⟩
    .obtain rfl:dm=true:=by simpa using hd
     exact .inl ⟨I,I,Z⟩
    exact .inr ⟨q,I⟩
   rcases Ku hm' with ⟨rfl,h⟩ | ⟨rfl,q,rfl⟩
   .exact .inl ⟨I,Z⟩
   exact .inr ⟨q,I⟩
  cases hv
 cases hv
def ev1(P:Ø)(ms:List eU)(e:Env)(p:qJ)(ks:List Key)(o:Ì):Option (FH×List Key×List Loc):=
 match o.op with
 | .load ty x=>(match ks,rd e p x with
  | .mem k d::ks',some (.q b off)=>(match Qm P ty (part ms (k,d) (ao6 P ty))with | some v=>some (.val v,ks',[.mem b off]) | none=>none)
  | _,_=>none)
 | .pick c x y=>(match pk e p c x y with | some v=>some (.val v,ks,[]) | none=>none)
 | .indexAddr t x ix=>(match ks,ixv P t (rd e p x) (rd e p ix)with
  | .idx i _::ks',some (b,off,len,k,z)=>some (.val (.pointer (some ⟨b,off+i*k,none⟩)),ks',[.idx z len])
  | _,_=>(match !(o.op.operands.all (λx=>(rd e p x).isSome))with
   | true=>none
   | false=>(match iT (ev0 P (Ù (zi e p) o))with | some r=>some (r,ks,[]) | none=>none)))
 | .binOp k t x y _=>(match ks,rd e p x,rd e p y with
  | .cmp _ _ _ _ _ _ V::ks',some u,some v=>some (.val V,ks',[.cmp k t x y u v])
  | _,some _,some _=>(match iT (ev0 P (Ù (zi e p) o))with | some r=>some (r,ks,[]) | none=>none)
  | _,_,_=>none)
 | op=>(match vT op || !op.operands.all (λx=>(rd e p x).isSome)with
  | true=>none
  | false=>(match ks with
   | .new d _ _ r0::ks'=>(match o.dst==some d with
    | true=>(match Fh P r0 (Ù (zi e p) o)with
     | some (A,_,k)=>(match iT (ev0 P k)with | some (.val v)=>some (.new,ks',[.new A v]) | _=>none)
     | none=>none)
    | false=>(match iT (ev0 P (Ù (zi e p) o))with | some r=>some (r,ks,[]) | none=>none))
   | .hand d kv::ks'=>(match o.dst==some d&&kv.all (λq=>o.op.operands.any λy=>match y with | .tmp s=>s==q.1 | _=>false)with | true=>some (.new,ks',[.hand (kv.map λq=>rd e p (.tmp q.1))]) | false=>(match iT (ev0 P (Ù (zi e p) o))with | some r=>some (r,ks,[]) | none=>none))
   | .slc l h m _::ks'=>(match op with
    | .slice t x lo hi mx=>(match amI P t (rd e p x) (lo.bind (rd e p)) (hi.bind (rd e p)) (mx.bind (rd e p)) lo.isNone hi.isNone mx.isNone l h m with | some (v,L)=>some (.val v,ks',[L]) | none=>none)
    | _=>(match iT (ev0 P (Ù (zi e p) o))with | some r=>some (r,ks,[]) | none=>none))
   | .ϥ l::ks'=>(match NC P ms (Ù (zi e p) o) l with
    | some (.value v,L)=>some (.val v,ks',[.ϥ L])
    | _=>none)
   | _=>(match iT (ev0 P (Ù (zi e p) o))with | some r=>some (r,ks,[]) | none=>none)))
def ren(d:Option Nat)(r:FH×List Key×List Loc):FH×List Key×List Loc:=
 match r with
 | (.val v,.re d' x u::ks,L)=>(match d==some d' with | true=>(.val u,ks,L++[.re v]) | false=>(.val v,.re d' x u::ks,L))
 | _=>r
def Gives(P:Ø)(ρ:ö->À)(w:Á)(o:Ì):FH->Prop
 | .val v=>(Ù ρ o).run P w = .ok (.value v) w
 | .enter f args=>(Ù ρ o).run P w = .ok (.enter f args) w
 | .new=>True
def Fq(ρ:ö->À)(e:Env)(o:Ì):Prop:=∀x∈o.op.operands,ZH ρ e x
abbrev ao7{x:ö}(hs:Std ρ)(hc:ZH ρ e c)(hx:ZH ρ e x)(hy:ZH ρ e y)(hg:jL e p=true)(h:pk e p c x y=some v) :
  ∃A,ρ c = .bool A∧(if A=true then ρ x else ρ y)=v:=by
 have key:∀(s:Nat) (A:Bool) (b:Bool),rd e p (.tmp s)=some (.bool A)->A=b->jL e ((s,b)::p)=true:=by
  intro s A b h1 h2;rw[uK];refine⟨hg,?_⟩;unfold rd at h1;cases hl:e.lookup s with
  | none=>simp[hl]at h1
  | some z =>
   obtain⟨q,u⟩:=z;dsimp only at h1;rw[hl]at h1;dsimp only at h1;split at h1
   .obtain rfl:=Ü h1;unfold tst;rw[hl];subst h2;cases A<;>rfl
   cases h1
 unfold pk at h;split at h
 .rename_i s;split at h
  .rename_i hF;obtain⟨A,B,h1,h2,rfl⟩:=ab9 h;refine⟨A,gK hs hc hg h1,?_⟩;cases hA:A with
   | true=>rw[Ï I,gK hs hx (key s A true h1 hA) h2]; rfl
   | false=>rw[É Y,amG hF,hs.const]; rfl
  split at h
  .rename_i hT;obtain⟨A,B,h1,h2,rfl⟩:=agt h;refine⟨A,gK hs hc hg h1,?_⟩;cases hA:A with
   | true=>rw[Ï I,amH hT,hs.const]; rfl
   | false=>rw[É Y,gK hs hy (key s A false h1 hA) h2]; rfl
  cases h
 cases h
abbrev kH{P:Ø}{r:FH}(hs:Std ρ)(hR:Fq ρ e o)(hg:jL e p=true)(h1:vT o.op=false)(h2:o.op.operands.all (λx=>(rd e p x).isSome)=true)
  (hv:iT (ev0 P (Ù (zi e p) o))=some r):Gives P ρ w o r:=by
 have hc:Ù ρ o=Ù (zi e p) o:=by
  refine execOp_congr o (λcs b e1=>by rw[e1]at h1; cases h1) λx hx=>?_;rw[ϑ]at h2;obtain⟨v,hv⟩:=į.1 (h2 x hx);rw[gK hs (hR x hx) hg hv];simp[zi,hv]
 unfold iT at hv;split at hv
 .rename_i v h1;obtain rfl:=Ü hv;show(Ù ρ o).run P w=_;rw[hc]; exact nY h1
 .rename_i f args h1;obtain rfl:=Ü hv;show(Ù ρ o).run P w=_;rw[hc]; exact nY h1
 cases hv
abbrev BA{k:Key}{ks' kl:List Key}(h:k::ks'=kl++ks'):kl=[k]:=by
 have hlen:kl.length=1:=by have:=Ñ List.length h; simp at this; omega
 match kl,hlen with
 | [k2],_=>simp at h; rw[h]
abbrev agx{P:Ø}{ms:List eU}{ks ks':List Key}{r:FH}{L:List Loc}
  (h:ev1 P ms e p ks o=some (r,ks',L)) (hs:Std ρ) (hR:Fq ρ e o) (hg:jL e p=true) (hm:Mem w ms) (hL:∃kl,ks=kl++ks'∧L=kl.map (wJ ms)∧nT nw P kl):Gives P ρ w o r:=by
 unfold ev1 at h;split at h
 .rename_i ty x hop;split at h
  .rename_i k d ώ b off hr;split at h
   .rename_i v hv;simp only[Ò,Ô]at h;obtain⟨rfl,rfl,rfl⟩:=h;obtain⟨kl,e1,e2,_⟩:=hL;obtain rfl:=BA e1;simp only[Ē,ŀ,wJ,ģ,and_true,Loc.mem.injEq]at e2;have hx:ρ x = .q b off:=gK hs (hR x (by simp[hop,Op.operands])) hg hr;have h1:=Kt hm (k,d) (ao6 P ty);rw[<-e2.1,<-e2.2]at h1;have h2:=O8 (w:=w) hv h1;show(Ù ρ o).run P w=_;unfold Ù;simp only[hop,hx,ķ,h2];rfl
   cases h
  cases h
 .rename_i c x y hop;split at h
  .rename_i v hv;simp only[Ò,Ô]at h;obtain⟨rfl,-,-⟩:=h;have hmem:∀z,z=c∨z=x∨z=y->ZH ρ e z:=λz hz=>hR z (by rw[hop]; simp[Op.operands]; exact hz);obtain⟨A,h1,h2⟩:=ao7 hs (hmem c (.inl I)) (hmem x (.inr (.inl I))) (hmem y (.inr (.inr I))) hg hv;exact acd hop h1 h2
  cases h
 .rename_i t x ix hop;split at h
  .rename_i i n' ώ b off len k z hix;simp only[Ò,Ô]at h;obtain⟨rfl,rfl,rfl⟩:=h;obtain⟨kl,e1,e2,hk⟩:=hL;obtain rfl:=BA e1;simp only[Ē,ŀ,wJ,ģ,and_true,Loc.idx.injEq]at e2;obtain⟨rfl,rfl⟩:=e2;obtain⟨c,kd,e3,hx,hi,hu,hsz⟩:=agu hix;have hmem:∀z,z=x∨z=ix->ZH ρ e z:=λz hz=>hR z (by rw[hop]; simp[Op.operands]; exact hz);exact Vp.MW i hop (gK hs (hmem x (.inl I)) hg hx) (gK hs (hmem ix (.inr I)) hg hi) hk.1 hu hsz
  split at h
  .cases h
  rename_i hal;split at h
  .rename_i r' hv;simp only[Ò,Ô]at h;obtain⟨rfl,-,-⟩:=h;exact kH hs hR hg (by rw[hop]; rfl) (by simpa using hal) hv
  cases h
 .rename_i k t x y yt hop;have hmem:∀z,z=x∨z=y->ZH ρ e z:=λz hz=>hR z (by rw[hop]; simp[Op.operands]; exact hz);split at h
  .rename_i k' t' ox oy x' y' V ώ u v hu hv;simp only[Ò,Ô]at h;obtain⟨rfl,rfl,rfl⟩:=h;obtain⟨kl,e1,e2,hk⟩:=hL;obtain rfl:=BA e1;simp only[Ē,ŀ,wJ,ģ,and_true,Loc.cmp.injEq]at e2;obtain⟨rfl,rfl,rfl,rfl,rfl,rfl⟩:=e2;have h1:=hk.1 w;show(Ù ρ o).run P w=_;unfold Ù;simp only[hop,gK hs (hmem x (.inl I)) hg hu,gK hs (hmem y (.inr I)) hg hv];simp only[ķ]at h1 |-;rw[h1];rfl
  .rename_i hu hv _;split at h
   .rename_i r' hr;simp only[Ò,Ô]at h;obtain⟨rfl,-,-⟩:=h;exact kH hs hR hg (by rw[hop]; rfl) (by rw[hop]; simp only[Op.operands]; simp[*]) hr
   cases h
  cases h
 split at h
 .cases h
 rename_i hsel;simp only[Ĕ]at hsel;split at h
 .split at h
  .split at h
   .split at h
    .simp only[Ò,Ô]at h;obtain⟨rfl,-,-⟩:=h;trivial
    cases h
   cases h
  split at h
  .rename_i r' hv;simp only[Ò,Ô]at h;obtain⟨rfl,-,-⟩:=h;exact kH hs hR hg hsel.1 (by simpa using hsel.2) hv
  cases h
 .split at h
  .simp only[Ò,Ô]at h;obtain⟨rfl,-,-⟩:=h;trivial
  split at h
  .rename_i r' hv;simp only[Ò,Ô]at h;obtain⟨rfl,-,-⟩:=h;exact kH hs hR hg hsel.1 (by simpa using hsel.2) hv
  cases h
 .rename_i l1 h1 m1 c1 ώ;split at h
  .rename_i t x lo hi mx hop;split at h
   .rename_i v L1 hsv;simp only[Ò,Ô]at h;obtain⟨rfl,rfl,rfl⟩:=h;obtain⟨kl,e1,e2,hk⟩:=hL;obtain rfl:=BA e1;simp only[Ē,ŀ,wJ,ģ,and_true]at e2;subst e2;have hop':o.op = .slice t x lo hi mx:=by assumption
    have hall:=hsel.2;rw[hop']at hall;simp only[Op.operands,Ő,Array.all_append,æ,ϑ,Option.mem_toArray]at hall;have hrd:∀y,(y=x∨lo=some y∨hi=some y∨mx=some y)->∃z,rd e p y=some z∧ρ y=z:=λy hy=>by
     have hs1:(rd e p y).isSome=true:=by
      rcases hy with rfl | h | h | h
      .exact hall.1.1.1 _ Y
      .exact hall.1.1.2 _ (by simp[h])
      .exact hall.1.2 _ (by simp[h])
      exact hall.2 _ (by simp[h])
     obtain⟨z,hz⟩:=į.1 hs1;refine⟨z,hz,gK hs (hR y ?_) hg hz⟩;rw[hop'];simp only[Op.operands,Array.mem_append,Option.mem_toArray];rcases hy with rfl | h | h | h
     .simp
     .simp[h]
     .simp[h]
     simp[h]
    obtain⟨xv,hx1,hx2⟩:=hrd x (.inl I);have amJ:∀q:Option ö,(∀y,q=some y->∃z,rd e p y=some z∧ρ y=z)->q.map ρ=agv q.isNone (q.bind (rd e p)):=λq hq=>by
     cases q with
     | none=>rfl
     | some y=>obtain⟨z,h1,h2⟩:=hq y I; simp[h1,h2,agv]
    show(Ù ρ o).run P w=_;unfold Ù;rw[hx1]at hsv;simp only[hop',hx2,amJ lo λy h=>hrd y (.inr (.inl h)),amJ hi λy h=>hrd y (.inr (.inr (.inl h))),amJ mx λy h=>hrd y (.inr (.inr (.inr h))),ķ,agw hsv hk.1];rfl
   cases h
  split at h
  .rename_i r' hv;simp only[Ò,Ô]at h;obtain⟨rfl,-,-⟩:=h;exact kH hs hR hg hsel.1 (by simpa using hsel.2) hv
  cases h
 .rename_i l1 ώ;split at h
  .rename_i v L1 hev;simp only[Ò,Ô]at h;obtain⟨rfl,rfl,rfl⟩:=h;obtain⟨kl,e1,e2,_⟩:=hL;obtain rfl:=BA e1;simp only[Ē,ŀ,wJ,ģ,and_true,Loc.ϥ.injEq]at e2;have hc:Ù ρ o=Ù (zi e p) o:=by
    refine execOp_congr o (λcs b e1=>by rw[e1]at hsel; cases hsel.1) λx hx=>?_;have h2:=hsel.2;simp only[Ő,ϑ]at h2;obtain⟨z,hz⟩:=į.1 (h2 x hx);rw[gK hs (hR x hx) hg hz];simp[zi,hz]
   show(Ù ρ o).run P w=_;rw[hc];exact GY hm hev e2
  cases h
 split at h
 .rename_i r' hv;simp only[Ò,Ô]at h;obtain⟨rfl,-,-⟩:=h;exact kH hs hR hg hsel.1 (by simpa using hsel.2) hv
 cases h
abbrev XE{P:Ø}{ms:List eU}{ks ks':List Key}{r:FH}{L:List Loc}(h:ev1 P ms e p ks o=some (r,ks',L)):∃kl,ks=kl++ks'∧L.length=kl.length:=by
 have none:∀{r1:FH} {k1:List Key},some (r1,k1,([]:List Loc))=some (r,ks',L)->k1=ks->∃kl,ks=kl++ks'∧L.length=kl.length:=by
  intro r1 k1 h hk;simp only[Ò,Ô]at h;obtain⟨-,rfl,rfl⟩:=h;exact⟨[],by simp[hk],I⟩
 unfold ev1 at h;split at h
 .split at h
  .split at h
   .simp only[Ò,Ô]at h;obtain⟨-,rfl,rfl⟩:=h;exact⟨[_],I,I⟩
   cases h
  cases h
 .split at h
  .exact none h I
  cases h
 .split at h
  .simp only[Ò,Ô]at h;obtain⟨-,rfl,rfl⟩:=h;exact⟨[_],I,I⟩
  split at h
  .cases h
  split at h
  .exact none h I
  cases h
 .split at h
  .simp only[Ò,Ô]at h;obtain⟨-,rfl,rfl⟩:=h;exact⟨[_],I,I⟩
  .split at h
   .exact none h I
   cases h
  cases h
 split at h
 .cases h
 split at h
 .split at h
  .split at h
   .split at h
    .simp only[Ò,Ô]at h;obtain⟨-,rfl,rfl⟩:=h;exact⟨[_],I,I⟩
    cases h
   cases h
  split at h
  .exact none h I
  cases h
 .split at h
  .simp only[Ò,Ô]at h;obtain⟨-,rfl,rfl⟩:=h;exact⟨[_],I,I⟩
  split at h
  .exact none h I
  cases h
 .split at h
  .split at h
   .simp only[Ò,Ô]at h;obtain⟨-,rfl,rfl⟩:=h;exact⟨[_],I,I⟩
   cases h
  split at h
  .exact none h I
  cases h
 .split at h
  .simp only[Ò,Ô]at h;obtain⟨-,rfl,rfl⟩:=h;exact⟨[_],I,I⟩
  cases h
 split at h
 .exact none h I
 cases h
abbrev Qj{P:Ø}{ms:List eU}{ks ks':List Key}{L:List Loc}(h:ev1 P ms e p ks o=some (.new,ks',L)) :
  (∃d A0 sh r0 A v ty k,ks = .new d A0 sh r0::ks'∧o.dst=some d∧L=[.new A v]∧Fh P r0 (Ù (zi e p) o)=some (A,ty,k)∧ev0 P k=some (.value v)∧vT o.op=false∧o.op.operands.all (λx=>(rd e p x).isSome)=true)∨∃d kv,ks = .hand d kv::ks'∧o.dst=some d∧L=[.hand (kv.map λq=>rd e p (.tmp q.1))]∧∀q∈kv,.tmp q.1∈o.op.operands:=by
 have no:∀{x:Option Next} {k1:List Key},(match iT x with | some r=>some (r,k1,([]:List Loc)) | none=>none)=some (.new,ks',L)->False:=by
  intro x k1 h;split at h
  .rename_i r hr;simp only[Ò,Ô]at h;obtain⟨rfl,-,-⟩:=h;unfold iT at hr;split at hr<;>cases hr
  cases h
 unfold ev1 at h;split at h
 .split at h
  .split at h<;>cases h
  cases h
 .split at h<;>cases h
 .split at h
  .cases h
  split at h
  .cases h
  exact(no h).elim
 .split at h
  .cases h
  .exact(no h).elim
  cases h
 split at h
 .cases h
 rename_i hsel;simp only[Ĕ]at hsel;split at h
 .rename_i d A0 sh r0 ώ;split at h
  .rename_i hdd;split at h
   .rename_i A ty k hev;split at h
    .rename_i v hv;simp only[Ò,Ô]at h;obtain⟨-,rfl,rfl⟩:=h;refine .inl ⟨d,A0,sh,r0,A,v,ty,k,I,by simpa using hdd,I,hev,?_,hsel.1,by simpa using hsel.2⟩;unfold iT at hv;split at hv
     .rename_i h2; obtain h3:=Ü hv; rw[h2]; simp only[FH.val.injEq]at h3; rw[h3]
     .cases hv
     cases hv
    cases h
   cases h
  exact(no h).elim
 .rename_i d kv ώ;split at h
  .rename_i hdd;simp only[Ò,Ô]at h;obtain⟨-,rfl,rfl⟩:=h;simp only[æ,Û,ø]at hdd;refine .inr ⟨d,kv,I,hdd.1,I,λq hq=>?_⟩;have h3:=hdd.2 q hq;rw[Array.any_eq_true']at h3;obtain⟨y,hy,hs⟩:=h3;cases y<;>simp at hs;rw[<-hs]; exact hy
  exact(no h).elim
 .split at h
  .split at h<;>cases h
  exact(no h).elim
 .split at h<;>cases h
 exact(no h).elim
def ϣ(P:Ø)(ms:List eU)(e:Env)(p:qJ)(ks:List Key)(o:Ì):Option (FH×List Key×List Loc):=
 match ev1 P ms e p ks o with
 | some r=>some (ren o.dst r)
 | none=>none
abbrev yU(d:Option Nat)(r:FH×List Key×List Loc):ren d r=r∨∃v d' x u ks L,r=(.val v,.re d' x u::ks,L)∧ren d r=(.val u,ks,L++[.re v]):=by
 unfold ren;split
 .rename_i v d' x u ks L;split
  .exact .inr ⟨v,d',x,u,ks,L,I,I⟩
  exact .inl I
 exact .inl I
abbrev aiO{P:Ø}{ms:List eU}{ks ks':List Key}{L:List Loc}(h:ϣ P ms e p ks o=some (.new,ks',L)):ev1 P ms e p ks o=some (.new,ks',L):=by
 unfold ϣ at h;cases h1:ev1 P ms e p ks o with
 | none=>simp[h1]at h
 | some r1 =>
  simp only[h1,Ò]at h;rcases yU o.dst r1 with h2 | ⟨v,d',x,u,ϋ,L2,h2,h3⟩
  .rw[h2]at h; rw[h]
  rw[h3]at h; simp at h
abbrev aiP{P:Ø}{ms:List eU}{ks ks':List Key}{r:FH}{L L':List Loc}(h:ϣ P ms e p ks o=some (r,ks',L))(hL:L++L'=ks.map (wJ ms))(hk:nT nw P ks) :
  (∃kl,ks=kl++ks'∧L=kl.map (wJ ms)∧nT nw P kl)∧L'=ks'.map (wJ ms)∧nT nw P ks':=by
 have key:∃kl,ks=kl++ks'∧L.length=kl.length:=by
  unfold ϣ at h;cases h1:ev1 P ms e p ks o with
  | none=>simp[h1]at h
  | some r1 =>
   simp only[h1,Ò]at h;obtain⟨r1,k1,L1⟩:=r1;obtain⟨kl,hkl,hl⟩:=XE h1;rcases yU o.dst (r1,k1,L1)with h2 | ⟨v,d',x,u,ϋ,L2,h2,h3⟩
   .rw[h2]at h;simp only[Ô]at h;obtain⟨-,rfl,rfl⟩:=h;exact⟨kl,hkl,hl⟩
   rw[h3]at h;simp only[Ô]at h h2;obtain⟨-,rfl,rfl⟩:=h;obtain⟨rfl,rfl,rfl⟩:=h2;exact⟨kl++[.re d' x u],by simp[hkl],by simp[hl]⟩
 obtain⟨kl,rfl,hl⟩:=key;rw[ĥ]at hL;obtain⟨h1,h2⟩:=List.append_inj hL (by simpa using hl);exact⟨⟨kl,I,h1,(zG.app hk).1⟩,h2,(zG.app hk).2⟩
abbrev amK{P:Ø}{ms:List eU}{ks ks':List Key}{r:FH}{L:List Loc}
  (h:ϣ P ms e p ks o=some (r,ks',L)) (hs:Std ρ) (hR:Fq ρ e o) (hg:jL e p=true) (hm:Mem w ms) (hL:∃kl,ks=kl++ks'∧L=kl.map (wJ ms)∧nT nw P kl):Gives P ρ w o r:=by
 unfold ϣ at h;cases h1:ev1 P ms e p ks o with
 | none=>simp[h1]at h
 | some r1 =>
  simp only[h1,Ò]at h;obtain⟨r1,k1,L1⟩:=r1;rcases yU o.dst (r1,k1,L1)with h2 | ⟨v,d',x,u,ϋ,L2,h2,h3⟩
  .rw[h2]at h;simp only[Ô]at h;obtain⟨rfl,rfl,rfl⟩:=h;exact agx h1 hs hR hg hm hL
  rw[h3]at h;simp only[Ô]at h h2;obtain⟨rfl,rfl,rfl⟩:=h;obtain⟨rfl,rfl,rfl⟩:=h2;obtain⟨kl,e1,e2,hk⟩:=hL;obtain⟨kl1,e3,e4⟩:=XE h1;have e5:kl=kl1++[.re d' x u]:=by
   have:kl++ϋ=(kl1++[.re d' x u])++ϋ:=by rw[<-e1,e3]; simp
   exact List.append_cancel_right this
  subst e5;rw[ĥ]at e2;obtain⟨f1,f2⟩:=List.append_inj e2 (by simpa using e4);simp only[Ē,ŀ,wJ,ģ,and_true,Loc.re.injEq]at f2;obtain⟨g1,g2⟩:=zG.app hk;have hv:v=u:=f2.trans g2.1;rw[<-hv];exact agx h1 hs hR hg hm ⟨kl1,e3,f1,g1⟩
def hd1(e:Env):qJ->Bool
 | []=>true
 | c::_=>tst e c.1 c.2
abbrev aiQ(h:hd1 e p=false):jL e p=false:=by
 cases p with
 | nil=>cases h
 | cons c r =>
  cases hg:jL e (c::r)with
  | false=>rfl
  | true =>
   have h2:=((uK e c r).1 hg).2;have h:tst e c.1 c.2=false:=h;rw[h]at h2; cases h2
def Zu(P:Ø)(ms:List eU)(e:Env)(p:qJ)(ks:List Key)(o:Ì):Option (FH×List Key×List Loc):=
 match ks with
 | .dead d v::r=>(match o.dst==some d with
  | true=>(match hd1 e p with | false=>some (.val v,r,[.dead]) | true=>none)
  | false=>ϣ P ms e p ks o)
 | _=>ϣ P ms e p ks o
abbrev yT{P:Ø}{ms:List eU}{ks ks':List Key}{r:FH}{L:List Loc}(h:Zu P ms e p ks o=some (r,ks',L)) :
  ϣ P ms e p ks o=some (r,ks',L)∨∃d v,ks = .dead d v::ks'∧r = .val v∧L=[.dead]∧jL e p=false:=by
 unfold Zu at h;split at h
 .rename_i d v r';split at h
  .split at h
   .rename_i hg;simp only[Ò,Ô]at h;obtain⟨rfl,rfl,rfl⟩:=h;exact .inr ⟨d,v,I,I,I,aiQ hg⟩
   cases h
  exact .inl h
 exact .inl h
abbrev Qk{P:Ø}{ms:List eU}{ks ks':List Key}{L:List Loc}(h:Zu P ms e p ks o=some (.new,ks',L)):ev1 P ms e p ks o=some (.new,ks',L):=by
 rcases yT h with h | ⟨_,_,_,h,_⟩
 .exact aiO h
 cases h
abbrev vN{P:Ø}{ms:List eU}{ks ks':List Key}{r:FH}{L L':List Loc}(h:Zu P ms e p ks o=some (r,ks',L))(hL:L++L'=ks.map (wJ ms))(hk:nT nw P ks) :
  (∃kl,ks=kl++ks'∧L=kl.map (wJ ms)∧nT nw P kl)∧L'=ks'.map (wJ ms)∧nT nw P ks':=by
 rcases yT h with h | ⟨d,v,rfl,rfl,rfl,_⟩
 .exact aiP h hL hk
 simp only[ō,ĵ,Ē,ģ]at hL;exact⟨⟨[.dead d v],I,I,G⟩,hL.2,hk⟩
abbrev Eu{P:Ø}{ms:List eU}{ks ks':List Key}{r:FH}{L:List Loc}
  (h:Zu P ms e p ks o=some (r,ks',L)) (hs:Std ρ) (hR:Fq ρ e o) (hg:jL e p=true) (hm:Mem w ms) (hL:∃kl,ks=kl++ks'∧L=kl.map (wJ ms)∧nT nw P kl):Gives P ρ w o r:=by
 rcases yT h with h | ⟨_,_,_,_,_,h⟩
 .exact amK h hs hR hg hm hL
 rw[hg]at h; cases h
def pathOf(ops:Array Ì)(e:Env)(o:Ì):Option qJ:=
 match o.guard with
 | none=>some []
 | some (g,b)=>match (ops[g]?).bind (·.dst)with
  | some s=>(match e.lookup s with | some (q,.bool _)=>some ((s,b)::q) | _=>none)
  | none=>none
def put(e:Env)(d:Option Nat)(p:qJ)(v:À):Env:=match d with | some d=>(d,p,v)::e | none=>e
def yg(n:Nat)(e:Env)(d:Option Nat)(p:qJ):Bool:=
 match d with
 | some d=>decide (d<n)&&(p.all (λc=>c.1 != d)&&e.all (λx=>x.2.1.all (λc=>c.1 != d)))
 | none=>true
abbrev Cl:=FuncId×Array À×Bool×À
abbrev ZI:=Cl×Option Nat×List Nat
abbrev T3:=Bool×À×Bool
abbrev Out:=Env×List Loc×List ZI×List T3
def waits(ops:Array Ì)(o:Ì):List Nat:=o.after.toList.filterMap λg=>match Region.binds .any g with | true=>(ops[g.on]?).bind (·.dst) | false=>none
def exec(P:Ø)(ms:List eU)(ops:Array Ì)(n:Nat):List Ì->Env->List Key->List À->Option Out
 | [],e,ks,cs=>(match ks,cs with | [],[]=>some (e,[],[],[]) | _,_=>none)
 | o::os,e,ks,cs =>
  match pathOf ops e o with
  | none=>none
  | some p =>
   match yg n e o.dst p,Zu P ms e p ks o with
   | true,some (.val v,ks',L) =>
    (match exec P ms ops n os (put e o.dst p v) ks' cs with | some (e',L',C,T)=>some (e',L++L',C,(jL e p,v,true)::T) | none=>none)
   | true,some (.new,ks',L)=>(match cs with
    | v::cs'=>(match exec P ms ops n os (put e o.dst p v) ks' cs' with | some (e',L',C,T)=>some (e',L++L',C,(jL e p,v,false)::T) | none=>none)
    | []=>none)
   | true,some (.enter f args,ks',L)=>(match cs with
    | v::cs'=>(match exec P ms ops n os (put e o.dst p v) ks' cs' with | some (e',L',C,T)=>some (e',L++L',((f,args,jL e p,v),o.dst,waits ops o)::C,(jL e p,v,false)::T) | none=>none)
    | []=>none)
   | _,_=>none
def Ζ(P:Ø)(w:Á):List Cl->Prop
 | []=>True
 | c::cs=>(∀w',Ext w w'->c.2.2.1=true->Calls P c.1 c.2.1 w' (λe w''=>e = .returned c.2.2.2∧Ext w' w''))∧Ζ P w cs
abbrev Ζ.ext{P:Ø}{w w':Á}:∀{C:List Cl},Ζ P w C->Ext w w'->Ζ P w' C
 | [],_,_=>trivial
 | _::_,h,hE=>⟨λw'' h2=>h.1 w'' (Ã hE h2),Ζ.ext h.2 hE⟩
abbrev aiR{b:Bool}(h:s≠d):tst (put e (some d) p v) s b=tst e s b:=by
 unfold tst put;rw[ġ];have:(s==d)=false:=by simpa using h
 rw[this]
theorem ND{e e':Env}:∀{q:qJ},(∀c∈q,tst e c.1 c.2=tst e' c.1 c.2)->jL e q=jL e' q
 | [],_=>rfl
 | [c],h=>by simp only[jL]; exact h c Y
 | c::c2::r,h=>by
  simp only[jL]
  rw[ND (q:=c2::r) (λx hx=>h x (by simp at hx |-; exact .inr hx)),h c Y]
abbrev GZ(h:q.all (λc=>c.1 != d)=true):jL (put e (some d) p v) q=jL e q:=
 ND λc hc=>aiR (by rw[ø]at h; simpa using h c hc)
abbrev Lu{x:qJ×À}(h:e.lookup i=some x):(i,x)∈e:=by
 induction e with
 | nil=>simp at h
 | cons y e ih =>
  rw[ġ]at h;by_cases hi:i=y.1
  .subst hi;simp only[Ŷ,Ò]at h;subst h; simp
  have e1:(i==y.1)=false:=by simpa using hi
  rw[e1]at h;exact Ŋ _ (ih h)
abbrev Kv{n:Nat}(h:yg n e (some d) p=true):d<n∧p.all (λc=>c.1 != d)=true∧∀i x,e.lookup i=some x->x.1.all (λc=>c.1 != d)=true:=by
 simp only[yg,æ,Ý]at h;refine⟨h.1,h.2.1,λi x hx=>?_⟩;have h2:=h.2.2;rw[ø]at h2;exact h2 _ (Lu hx)
abbrev Et{n:Nat}{d:Option Nat}{u:À}(h:Holds a.eval e)(hsz:a.tmps.size=n)(hp:yg n e d p=true)(hu:u=den e (p,v)):Holds (a.put d u).eval (put e d p v):=by
 cases d with
 | none=>exact h
 | some d =>
  obtain⟨hd,h1,h2⟩:=Kv hp;intro i x hx;by_cases hi:i=d
  .subst hi;simp only[put,ġ,Ŷ,Ò]at hx;subst hx;unfold den;rw[GZ h1];have hlt:i<a.tmps.size:=Z
   have:(a.put (some i) u).eval (.tmp i)=u:=by simp[Act.eval,Act.put,hlt]
   rw[this,hu]; rfl
  have e1:(i==d)=false:=by simpa using hi
  simp only[put,ġ,e1]at hx;rw[kR (oM a (some d) u i (λe=>hi (Ü e).symm)),h i x hx];unfold den;rw[GZ (h2 i x hx)]
abbrev Uh{P:Ø}{next:Act->Á->Prop}{Q:Exit->Act->Á->Prop}(h:(Ù a.eval o).run P w = .ok (.value v) w)(hn:next (a.put o.dst v) w):o.wp P a w next Q:=by
 unfold Oper.wp; rw[h]; exact hn
abbrev sD{ops:Array Ì}(hp:pathOf ops e o=some p)(h:∀x,(∃g,o.guard=some g∧(ops[g.1]?).bind (·.dst)=some x)->ZH a.eval e (.tmp x)):Region.wanted o (yielded ops a.tmps)=true↔jL e p=true:=by
 unfold pathOf at hp;cases hg:o.guard with
 | none =>
  rw[hg]at hp;obtain rfl:=Ü hp;simp[Region.wanted,hg,jL]
 | some gb =>
  obtain⟨g,b⟩:=gb;rw[hg]at hp;simp only at hp;cases hs:(ops[g]?).bind (·.dst)with
  | none=>simp[hs]at hp
  | some s =>
   simp only[hs]at hp;have hw:=Af (ops:=ops) (a:=a) hg;rw[hs]at hw;rw[hw];have hR:=h s ⟨_,hg,hs⟩;cases hl:e.lookup s with
   | none=>simp[hl]at hp
   | some x =>
    obtain⟨q,u⟩:=x;have hv:=hR s _ I hl;cases u<;>simp only[hl]at hp<;>try (cases hp)
    rename_i t;show a.eval (.tmp s)=_↔_;rw[hv,uK];unfold den tst;rw[hl];simp only;cases jL e q<;>cases b<;>cases t<;>simp[undef]
abbrev gG(h:Holds ρ e)(o:Ì):Fq ρ e o:=λ_ _ i y _ hl=>h i y hl
theorem Ql{P:Ø}{ms:List eU}{ops:Array Ì}{n:Nat}{Q:Exit->Act->Á->Prop}{rest:List Ì}:∀(os:List Ì) {e e':Env} {ks:List Key} {L:List Loc} {C:List ZI} {T:List T3} {cs:List À} {a:Act} {w:Á},
  exec P ms ops n os e ks cs=some (e',L,C,T)->a.tmps.size=n->Holds a.eval e->Mem w ms->L=ks.map (wJ ms)->zG P ks->Ζ P w (C.map (·.1)) ->
  (∀a' w',Ext w w'->(C=[]->w'=w)->a'.tmps.size=n->a'.defers=a.defers->Holds a'.eval e'->Ð P ops Q rest a' w')->Ð P ops Q (os++rest) a w
 | [],e,e',ks,L,C,T,cs,a,w,hx,hsz,hh,hm,hL,hk0,hO,hn=>by
  unfold exec at hx
  split at hx
  .simp only[Ò,Ô]at hx
   obtain⟨rfl,-,-,-⟩:=hx
   exact hn a w ô (λ_=>I) hsz I hh
  .cases hx
 | o::os,e,e',ks,L,C,T,cs,a,w,hx,hsz,hh,hm,hL,hk0,hO,hn=>by
  unfold exec at hx
  cases hp:pathOf ops e o with
  | none=>simp[hp]at hx
  | some p =>
   simp only[hp]at hx
   have hw:=sD (a:=a) hp (λx _ i y _ hl=>hh i y hl)
   cases hpo:yg n e o.dst p with
   | false=>simp[hpo]at hx
   | true =>
    cases h1:Zu P ms e p ks o with
    | none=>simp[hpo,h1]at hx
    | some r =>
     obtain⟨r,ks',L1⟩:=r
     have go:∀v (C':List ZI) L' T' cs',exec P ms ops n os (put e o.dst p v) ks' cs'=some (e',L',C',T')->L1++L'=ks.map (wJ ms)->Ζ P w (C'.map (·.1))->(C'=[]->C=[]∨jL e p=true->True) ->
       ∀u w1,u=den e (p,v)->Ext w w1->(C'=[]->w1=w∨C≠[])->(C=[]->C'=[])->Ð P ops Q (os++rest) (a.put o.dst u) w1:=by
      intro v C' L' T' cs' hx' hL' hO' _ u w1 hu hE hw1 hCC
      obtain⟨_,hL2,hk2⟩:=vN h1 hL' hk0
      refine Ql os hx' (by rw[tN]; exact hsz) (Et hh hsz hpo hu) (hm.ext hE) hL2 hk2 (hO'.ext hE) λa' w' hE' hC' hsz' hd' hh'=>?_
      refine hn a' w' (Ã hE hE') (λhc=>?_) hsz' (by rw[hd',put_defers]) hh'
      rw[hC' (hCC hc)]
      rcases hw1 (hCC hc)with h | h
      .exact h
      .exact absurd hc h
     cases r with
     | val v =>
      simp only[hpo,h1]at hx
      cases hx':exec P ms ops n os (put e o.dst p v) ks' cs with
      | none=>simp[hx']at hx
      | some z =>
       obtain⟨e1,L',C',T'⟩:=z
       simp only[hx',Ò,Ô]at hx
       obtain⟨rfl,rfl,rfl,-⟩:=hx
       show Ð P ops Q (o::(os++rest)) a w
       unfold Ð
       by_cases hG:jL e p=true
       .rw[Ï (hw.2 hG)]
        left
        refine Uh (Eu h1 (Std.act a) (gG hh o) hG hm (vN h1 hL hk0).1) ?_
        exact go v _ _ _ _ hx' hL hO (λ_ _=>G) v w (by simp[den,hG]) ô (λ_ => .inl I) (λh=>h)
       .rw[É (λh=>hG (hw.1 h))]
        exact go v _ _ _ _ hx' hL hO (λ_ _=>G) undef w (by simp[den,hG]) ô (λ_ => .inl I) (λh=>h)
     | new =>
      rcases Qj (Qk h1)with ⟨_,_,_,_,_,_,_,_,rfl,_⟩ | ⟨_,_,rfl,_⟩<;>exact hk0.1.elim
     | enter f args =>
      simp only[hpo,h1]at hx
      cases cs with
      | nil=>simp at hx
      | cons v cs' =>
       simp only at hx
       cases hx':exec P ms ops n os (put e o.dst p v) ks' cs' with
       | none=>simp[hx']at hx
       | some z =>
        obtain⟨e1,L',C',T'⟩:=z
        simp only[hx',Ò,Ô]at hx
        obtain⟨rfl,rfl,rfl,-⟩:=hx
        show Ð P ops Q (o::(os++rest)) a w
        unfold Ð
        by_cases hG:jL e p=true
        .rw[Ï (hw.2 hG)]
         left
         have h2:=Eu h1 (Std.act a) (gG hh o) hG hm (vN h1 hL hk0).1
         unfold Oper.wp
         rw[h2]
         simp only[Oper.upon]
         refine(hO.1 w ô hG).mono λe2 w2 hk=>?_
         obtain⟨rfl,hE⟩:=hk
         exact go v _ _ _ _ hx' hL hO.2 (λ_ _=>G) v w2 (by simp[den,hG]) hE (λ_ => .inr Y) (λh=>by cases h)
        .rw[É (λh=>hG (hw.1 h))]
         exact go v _ _ _ _ hx' hL hO.2 (λ_ _=>G) undef w (by simp[den,hG]) ô (λ_ => .inl I) (λh=>by cases h)
def ZJ(dl:List (Option Nat))(i:Nat)(af:List Edge)(s:Nat):Bool:=
 dl.zipIdx.all λx=>x.1 != some s||(decide (x.2<i)&&af.any (λg=>g.on==x.2&&Region.binds .any g))
def slotsOf(ops:Array Ì)(o:Ì):List Nat:=
 o.op.operands.toList.filterMap (λx=>match x with | .tmp s=>some s | _=>none) ++
  (match o.guard with | some (g,_)=>(match (ops[g]?).bind (·.dst)with | some s=>[s] | none=>[]) | none=>[])
def sG(ops:Array Ì)(hd:List Ì):Bool:=
 hd.zipIdx.all λx=>x.1.dst.isSome&&(slotsOf ops x.1).all (ZJ (hd.map (·.dst)) x.2 x.1.after.toList)
abbrev yY{α:Type}{l:List α}{x:α}(h:l[i]?=some x):(x,i)∈l.zipIdx:=by
 rw[List.mem_zipIdx_iff_getElem?]; exact h
abbrev yZ{dl:List (Option Nat)}{af:List Edge}(h:ZJ dl i af s=true){j:Nat}(hj:dl[j]?=some (some s)):j<i∧∃g∈af,g.on=j∧Region.binds .any g=true:=by
 unfold ZJ at h;rw[ø]at h;have:=h _ (yY hj);simp only[bne_self_eq_false,ayT,æ,Ý,ay9,Û]at this;obtain⟨h1,g,h2,h3,h4⟩:=this;exact⟨h1,g,h2,h3,h4⟩
def X5(x:T3):Fact:=Rel.is (_root_.cond x.1 x.2.1 undef)
def Ϗ(hd:List Ì)(Ta:List T3)(e0:Env)(i:Nat)(e:Env):Prop:=∀s x,e.lookup s=some x ->
 (∃(j:Nat) (o:Ì),j<i∧hd[j]?=some o∧o.dst=some s∧∃k,Ta[j]?=some (jL e x.1,x.2,k))∨((∀(j:Nat) (o:Ì),j<i->hd[j]?=some o->o.dst≠some s)∧e0.lookup s=some x)
theorem Ϗ.put{hd:List Ì}{Ta:List T3}{e0 e:Env}{i n:Nat}{p:qJ}{v:À}{o:Ì}{d:Nat}{kk:Bool}(h:Ϗ hd Ta e0 i e)(ho:hd[i]?=some o)(hd':o.dst=some d)(hT:Ta[i]?=some (jL e p,v,kk))(hp:yg n e (some d) p=true) :
  Ϗ hd Ta e0 (i+1) (put e (some d) p v):=by
 obtain⟨_,h1,h2⟩:=Kv hp;intro s x hx;by_cases hs:s=d
 .subst hs;simp only[Sx.put,ġ,Ŷ,Ò]at hx;subst hx;exact .inl ⟨i,o,Z,ho,hd',kk,by rw[hT]; show some (jL e p,v,kk)=some (jL (Sx.put e (some s) p v) p,v,kk); rw[GZ h1]⟩
 have e1:(s==d)=false:=by simpa using hs
 simp only[Sx.put,ġ,e1]at hx;rcases h s x hx with ⟨j,oj,hj,hoj,hdj,k,hTj⟩ | ⟨hno,h0⟩
 .exact .inl ⟨j,oj,Z,hoj,hdj,k,by rw[hTj]; show some (jL e x.1,x.2,k)=some (jL (Sx.put e (some d) p v) x.1,x.2,k); rw[GZ (h2 s x hx)]⟩
 refine .inr ⟨λj oj hj hoj hdj=>?_,h0⟩;rcases ĳ j i with hlt | hge
 .exact hno j oj hlt hoj hdj
 obtain rfl:j=i:=by omega
 rw[ho]at hoj;obtain rfl:=Ü hoj;rw[hd']at hdj;exact hs (Ü hdj).symm
section
variable{P:Ø}{ms:List eU}{ops:Array Ì}{n:Nat}{hd:List Ì}{Ta:List T3}{e0:Env}{DN:ö->À}{w0:Á}
abbrev amL{i:Nat}{e:Env}{o:Ì}{ρ:ö->À}{w:Á}(ht:Ϗ hd Ta e0 i e)(ho:hd[i]?=some o)(hops:∀(j:Nat) o,hd[j]?=some o->ops[j]?=some o)(EC:sG ops hd=true)(h0:Holds DN e0)(he0:∀s x,e0.lookup s=some x->x.1=[])
  (hOut:Rel.Out hd ρ DN) (hd':Rel.QE ops (Ta.map X5) ρ w o.after.toList) {s:Nat} (hs:s∈slotsOf ops o):ZH ρ e (.tmp s):=by
 have key:∀es:List Edge,Rel.QE ops (Ta.map X5) ρ w es->∀g∈es,Region.binds .any g=true->(Ta.map X5).getD g.on top (Rel.valOf ρ ((ops[g.on]?).bind (·.dst))) w:=by
  intro es;induction es with
  | nil=>intro _ g hg; cases hg
  | cons x es ih =>
   intro h g hg hb;rcases ç.1 hg with rfl | hg
   .exact h.1 hb
   exact ih h.2 g hg hb
 intro s' x hss hl;obtain rfl:=Operand.tmp.inj hss;unfold sG at EC;rw[ø]at EC;have h1:=EC _ (yY ho);simp only[æ,ø]at h1;have h2:=h1.2 s hs;rcases ht s x hl with ⟨j,oj,hj,hoj,hdj,k,hTj⟩ | ⟨hno,h3⟩
 .have hdl:(hd.map (·.dst))[j]?=some (some s):=by rw[List.getElem?_map,hoj,Ę,hdj]
  obtain⟨_,g,hg,rfl,hb⟩:=yZ h2 hdl;have h3:=key _ hd' g hg hb;rw[hops _ _ hoj]at h3;simp only[Ο,hdj]at h3;have e1:(Ta.map X5).getD g.on top=X5 (jL e x.1,x.2,k):=by simp[List.getD,List.getElem?_map,hTj]
  rw[e1]at h3;exact h3
 have hall:hd.all (λo => !(o.dst==some s))=true:=by
  rw[ø];intro oj hoj;obtain⟨j,hj⟩:=List.getElem?_of_mem hoj;simp only[ś,ä];intro hdj;have hdl:(hd.map (·.dst))[j]?=some (some s):=by rw[List.getElem?_map,hj,Ę,hdj]
  obtain⟨hlt,_⟩:=yZ h2 hdl;exact hno j oj hlt hj hdj
 rw[hOut s hall,h0 s x h3];unfold den;rw[he0 s x h3];rfl
abbrev yB{o:Ì}{v:À}(h:o.dst.isSome=true):kept o v=v:=by
 unfold kept;cases hd:o.dst with
 | none=>rw[hd]at h; cases h
 | some _=>rfl
theorem Kw(hops:∀(j:Nat) o,hd[j]?=some o->ops[j]?=some o)(EC:sG ops hd=true)(h0:Holds DN e0)(he0:∀s x,e0.lookup s=some x->x.1=[])(hm:Mem w0 ms) :
  ∀(os:List Ì) (i:Nat) {e e':Env} {ks:List Key} {L:List Loc} {C:List ZI} {T:List T3} {cs:List À},hd.drop i=os->Ta.drop i=T->Ϗ hd Ta e0 i e->exec P ms ops n os e ks cs=some (e',L,C,T)->L=ks.map (wJ ms)->zG P ks->Ζ P w0 (C.map (·.1)) ->
  Rel.qL P ops hd (Ta.map X5) Ext (λw=>Ext w0 w) DN os (T.map X5)
 | [],i,e,e',ks,L,C,T,cs,_,_,_,_,_,_,_=>by cases T<;>trivial
 | o::os,i,e,e',ks,L,C,T,cs,hos,hTa,ht,hx,hL,hk0,hO=>by
  have ho:hd[i]?=some o:=by have:=Ñ List.head? hos; simpa[List.head?_drop]using this
  have aiS:hd.drop (i+1)=os:=by have:=Ñ List.tail hos; simpa[List.tail_drop]using this
  have hdst:o.dst.isSome=true:=by
   unfold sG at EC
   rw[ø]at EC
   have h1:=EC _ (yY ho)
   simp only[æ]at h1
   exact h1.1
  obtain⟨d,hd1⟩:=į.1 hdst
  unfold exec at hx
  cases hp:pathOf ops e o with
  | none=>simp[hp]at hx
  | some p =>
   simp only[hp]at hx
   cases hpo:yg n e o.dst p with
   | false=>simp[hpo]at hx
   | true =>
    cases h1:Zu P ms e p ks o with
    | none=>simp[hpo,h1]at hx
    | some r =>
     obtain⟨r,ks',L1⟩:=r
     have obl:∀v kk,(∀ρ w,Std ρ->Fq ρ e o->jL e p=true->Ext w0 w->(∃kl,ks=kl++ks'∧L1=kl.map (wJ ms)∧zG P kl)->Does P o ρ w (λu w'=>Ext w w'∧X5 (jL e p,v,kk) (kept o u) w'))->(∃kl,ks=kl++ks'∧L1=kl.map (wJ ms)∧zG P kl) ->
       Rel.tK P ops hd (Ta.map X5) Ext (λw=>Ext w0 w) DN o (X5 (jL e p,v,kk)):=by
      intro v kk hdo hkl ρ w hs hOut hC hD
      have hrd:∀s∈slotsOf ops o,ZH ρ e (.tmp s):=λs hs'=>amL ht ho hops EC h0 he0 hOut hD hs'
      have hR:Fq ρ e o:=by
       intro x hx
       cases x with
       | tmp s =>
        refine hrd s (ϐ _ ?_)
        rw[Ō]
        exact⟨.tmp s,by simpa using hx,I⟩
       | const _=>intro i y h; cases h
       | global _=>intro i y h; cases h
       | func _=>intro i y h; cases h
      cases hg:o.guard with
      | none =>
       unfold pathOf at hp
       rw[hg]at hp
       obtain rfl:=Ü hp
       exact hdo ρ w hs hR I hC hkl
      | some gb =>
       obtain⟨g,b⟩:=gb
       have hiff:Rel.valOf ρ ((ops[g]?).bind (·.dst)) = .bool b↔jL e p=true:=by
        unfold pathOf at hp
        rw[hg]at hp
        simp only at hp
        cases hs':(ops[g]?).bind (·.dst)with
        | none=>simp[hs']at hp
        | some s =>
         simp only[hs']at hp
         have hR1:ZH ρ e (.tmp s):=hrd s (Ş _ (by rw[hg]; simp[hs']))
         cases hl:e.lookup s with
         | none=>simp[hl]at hp
         | some x =>
          obtain⟨q,u⟩:=x
          have hv:=hR1 s _ I hl
          cases u<;>simp only[hl]at hp<;>try (cases hp)
          rename_i t
          show ρ (.tmp s)=_↔_
          rw[hv,uK]
          unfold den tst
          rw[hl]
          simp only
          cases jL e q<;>cases b<;>cases t<;>simp[undef]
       refine⟨λhv=>hdo ρ w hs hR (hiff.1 hv) hC hkl,λhv=>?_⟩
       have:jL e p=false:=by
        cases h:jL e p with
        | false=>rfl
        | true=>exact absurd (hiff.2 h) hv
       show undef=_root_.cond (jL e p) v undef
       rw[this]; rfl
     cases r with
     | val v =>
      simp only[hpo,h1]at hx
      cases hx':exec P ms ops n os (put e o.dst p v) ks' cs with
      | none=>simp[hx']at hx
      | some z =>
       obtain⟨e1,L',C',T'⟩:=z
       simp only[hx',Ò,Ô]at hx
       obtain⟨rfl,rfl,rfl,rfl⟩:=hx
       obtain⟨hkl,hL2,hk2⟩:=vN h1 hL hk0
       have υ:Ta[i]?=some (jL e p,v,true):=by have:=Ñ List.head? hTa; simpa[List.head?_drop]using this
       have agy:Ta.drop (i+1)=T':=by have:=Ñ List.tail hTa; simpa[List.tail_drop]using this
       refine⟨obl v _ (λρ w hs hR hG hC hk=>?_) hkl,?_⟩
       .refine QH (Eu h1 hs hR hG (hm.ext hC) hk) ô ?_
        rw[yB hdst]
        show v=_root_.cond (jL e p) v undef
        rw[hG]; rfl
       .rw[hd1]at hx' hpo
        exact Kw hops EC h0 he0 hm os (i+1) aiS agy (ht.put ho hd1 υ hpo) hx' hL2 hk2 hO
     | new =>
      rcases Qj (Qk h1)with ⟨_,_,_,_,_,_,_,_,rfl,_⟩ | ⟨_,_,rfl,_⟩<;>exact hk0.1.elim
     | enter f args =>
      simp only[hpo,h1]at hx
      cases cs with
      | nil=>simp at hx
      | cons v cs' =>
       simp only at hx
       cases hx':exec P ms ops n os (put e o.dst p v) ks' cs' with
       | none=>simp[hx']at hx
       | some z =>
        obtain⟨e1,L',C',T'⟩:=z
        simp only[hx',Ò,Ô]at hx
        obtain⟨rfl,rfl,rfl,rfl⟩:=hx
        obtain⟨hkl,hL2,hk2⟩:=vN h1 hL hk0
        have υ:Ta[i]?=some (jL e p,v,false):=by have:=Ñ List.head? hTa; simpa[List.head?_drop]using this
        have agy:Ta.drop (i+1)=T':=by have:=Ñ List.tail hTa; simpa[List.tail_drop]using this
        refine⟨obl v _ (λρ w hs hR hG hC hk=>?_) hkl,?_⟩
        .refine yF (Eu h1 hs hR hG (hm.ext hC) hk) ?_
         refine(hO.1 w hC hG).mono λe2 w2 hk3=>?_
         obtain⟨rfl,hE⟩:=hk3
         refine⟨v,I,hE,?_⟩
         rw[yB hdst]
         show v=_root_.cond (jL e p) v undef
         rw[hG]; rfl
        .rw[hd1]at hx' hpo
         exact Kw hops EC h0 he0 hm os (i+1) aiS agy (ht.put ho hd1 υ hpo) hx' hL2 hk2 hO.2
end
theorem UR{P:Ø}{ms:List eU}{ops:Array Ì}{n:Nat}{K:Act->Prop}{w:Á}:∀(os:List Ì) {e e':Env} {ks:List Key} {L:List Loc} {C:List ZI} {T:List T3} {cs:List À} {a:Act},
  exec P ms ops n os e ks cs=some (e',L,C,T)->a.tmps.size=n->Holds a.eval e->(∀a',a'.tmps.size=n->a'.defers=a.defers->Holds a'.eval e'->K a')->Rel.End K w os (T.map X5) a
 | [],e,e',ks,L,C,T,cs,a,hx,hsz,hh,hK=>by
  unfold exec at hx
  split at hx
  .simp only[Ò,Ô]at hx
   obtain⟨rfl,-,-,rfl⟩:=hx
   exact hK a hsz I hh
  .cases hx
 | o::os,e,e',ks,L,C,T,cs,a,hx,hsz,hh,hK=>by
  unfold exec at hx
  cases hp:pathOf ops e o with
  | none=>simp[hp]at hx
  | some p =>
   simp only[hp]at hx
   cases hpo:yg n e o.dst p with
   | false=>simp[hpo]at hx
   | true =>
    cases h1:Zu P ms e p ks o with
    | none=>simp[hpo,h1]at hx
    | some r =>
     obtain⟨r,ks',L1⟩:=r
     have go:∀v kk L' C' T' cs',exec P ms ops n os (put e o.dst p v) ks' cs'=some (e',L',C',T')->Rel.End K w (o::os) (((jL e p,v,kk)::T').map X5) a:=by
      intro v kk L' C' T' cs' hx' u hu
      refine UR os hx' (by rw[tN]; exact hsz) (Et hh hsz hpo hu) λa' h1 h2 h3=>hK a' h1 (by rw[h2,put_defers]) h3
     cases r with
     | val v =>
      simp only[hpo,h1]at hx
      cases hx':exec P ms ops n os (put e o.dst p v) ks' cs with
      | none=>simp[hx']at hx
      | some z =>
       obtain⟨e1,L',C',T'⟩:=z
       simp only[hx',Ò,Ô]at hx
       obtain⟨rfl,rfl,rfl,rfl⟩:=hx
       exact go v _ _ _ _ _ hx'
     | new =>
      simp only[hpo,h1]at hx
      cases cs with
      | nil=>simp at hx
      | cons v cs' =>
       simp only at hx
       cases hx':exec P ms ops n os (put e o.dst p v) ks' cs' with
       | none=>simp[hx']at hx
       | some z =>
        obtain⟨e1,L',C',T'⟩:=z
        simp only[hx',Ò,Ô]at hx
        obtain⟨rfl,rfl,rfl,rfl⟩:=hx
        exact go v _ _ _ _ _ hx'
     | enter f args =>
      simp only[hpo,h1]at hx
      cases cs with
      | nil=>simp at hx
      | cons v cs' =>
       simp only at hx
       cases hx':exec P ms ops n os (put e o.dst p v) ks' cs' with
       | none=>simp[hx']at hx
       | some z =>
        obtain⟨e1,L',C',T'⟩:=z
        simp only[hx',Ò,Ô]at hx
        obtain⟨rfl,rfl,rfl,rfl⟩:=hx
        exact go v _ _ _ _ _ hx'
