/- A walk by reckoning: the operations of a region are -/
import Derived.Test.YtodpgjjgaddkeaaGreatDoorPk4
namespace Go.Sx
open Go.Proofs.YtodpgjjgaddkeaaGreatDoor Go.RowKit Go.Rel
set_option linter.unusedVariables false
set_option linter.unusedSimpArgs false
abbrev L (l:List Value):List Value:=l
def zr:List Value:=[.z,.sn,.z,.sn]
def za:List Value:=zr++zr++zr++zr++zr++zr
def ev0{α:Type}(P:Program):Sem α->Option α
 | .pure a=>some a
 | .program k=>ev0 P (k P)
 | .mark _ k=>ev0 P k
 | _=>none
theorem nO{α:Type}{P:Program}{w:World}:∀{s:Sem α} {x:α},ev0 P s=some x->s.run P w = .ok x w
 | .pure a,x,h=>by obtain rfl:=az1 h; rfl
 | .program k,x,h=>by
  show(k P).run P w=_
  exact nO (s:=k P) h
 | .mark _ k,x,h=>by
  show k.run P w=_
  exact nO (s:=k) h
 | .load ..,_,h=>by cases h
 | .store ..,_,h=>by cases h
 | .new ..,_,h=>by cases h
 | .shape ..,_,h=>by cases h
 | .freeze ..,_,h=>by cases h
 | .frozen ..,_,h=>by cases h
 | .getObj ..,_,h=>by cases h
 | .setObj ..,_,h=>by cases h
 | .choose ..,_,h=>by cases h
 | .sys ..,_,h=>by cases h
 | .halt ..,_,h=>by cases h
abbrev qj:=List (Nat×Bool)
abbrev Env:=List (Nat×qj×Value)
def tst(e:Env)(s:Nat)(b:Bool):Bool:=
 match e.lookup s with
 | some (_,.bool t)=>(match b with | true=>t | false => !t)
 | _=>false
def jI(e:Env):qj->Bool
 | []=>true
 | [p]=>tst e p.1 p.2
 | p::q::r=>jI e (q::r)&&tst e p.1 p.2
variable{e:Env}{p q:qj}{o:Oper}{v:Value}{w:World}{ρ:Operand->Value}{nw:Prop}{y c:Operand}{x lo mx:Option Value}{t:TypeId}{d i b len k l h m s:Nat}{a:Act}{z:Int}
theorem uj(e:Env)(p:Nat×Bool)(r:qj):jI e (p::r)=true↔jI e r=true∧tst e p.1 p.2=true:=by
 cases r with
 | nil=>simp[jI]
 | cons q r=>simp[jI]
theorem ZA(e:Env):∀p:qj,jI e p=true↔∀c∈p,tst e c.1 c.2=true
 | []=>by simp[jI]
 | p::r=>by rw[uj,ZA e r]; simp[and_comm]
theorem ah1(h:q.all (λc=>p.contains c)=true)(hp:jI e p=true):jI e q=true:=by
 rw[ZA]at hp |-;intro c hc;rw[aAr]at h;exact hp c (by simpa using h c hc)
def den(e:Env)(x:qj×Value):Value:=_root_.cond (jI e x.1) x.2 undef
def Holds(ρ:Operand->Value)(e:Env):Prop:=∀i x,e.lookup i=some x->ρ (.tmp i)=den e x
def rd(e:Env)(p:qj):Operand->Option Value
 | .tmp i=>match e.lookup i with | some (q,v)=>(match q.all (λc=>p.contains c)with | true=>some v | false=>none) | none=>none
 | .const v=>some v
 | .global g=>some (.q g 0)
 | .func f=>some (.func (.func f) #[] #[])
def yP(e:Env)(p:qj)(x:Operand):Value:=(rd e p x).getD undef
def ZB(ρ:Operand->Value)(e:Env)(x:Operand):Prop:=∀i y,x = .tmp i->e.lookup i=some y->ρ (.tmp i)=den e y
theorem gX{x:Operand}(hs:Std ρ)(h:ZB ρ e x)(hg:jI e p=true)(hr:rd e p x=some v):ρ x=v:=by
 cases x with
 | const c=>rw[hs.const]; exact az1 hr
 | global g=>rw[hs.global]; exact az1 hr
 | func f=>rw[hs.func]; exact az1 hr
 | tmp i =>
  unfold rd at hr;cases hl:e.lookup i with
  | none=>simp[hl]at hr
  | some y =>
   obtain⟨q,u⟩:=y;dsimp only at hr;rw[hl]at hr;dsimp only at hr;split at hr
   .rename_i hq;obtain rfl:=az1 hr;rw[h i _ I hl];unfold den;rw[ah1 hq hg];rfl
   cases hr
abbrev fD:=Nat×Nat×List Value
def Mem(w:World)(ms:List fD):Prop:=∀m∈ms,m.1<w.heap.size∧w.rangeAt m.1 m.2.1 m.2.2
theorem Mem.ext{w w':World}{ms:List fD}(h:Mem w ms)(hE:Ext w w'):Mem w' ms:=λm hm =>
 ⟨aAk (h m hm).1 hE.size,Vp.pY (h m hm).2 (h m hm).1 hE⟩
def Ql(P:Program)(ty:TypeId)(cs:List Value):Option Value:=
 match P.underlying ty,P.info? ty with
 | some t,some i=>match cs.length==i.size with
  | true=>(match t.isRow with
   | true=>some (.agg cs.toArray)
   | false=>(match cs with | [v]=>some v | _=>none))
  | false=>none
 | _,_=>none
def aqw(P:Program)(ty:TypeId):Nat:=match P.info? ty with | some i=>i.size | none=>0
theorem Pv{P:Program}{ty:TypeId}{cs:List Value}{o:Nat}(h:Ql P ty cs=some v)(hr:w.rangeAt b o cs) :
  (Instr.loadAt ty (.q b o)).run P w = .ok v w:=by
 unfold Ql at h;cases hu:P.underlying ty with
 | none=>simp[hu]at h
 | some t =>
  cases hi:P.info? ty with
  | none=>simp[hu,hi]at h
  | some i =>
   simp only[hu,hi]at h;cases hl:cs.length==i.size with
   | false=>simp[hl]at h
   | true =>
    simp only[hl]at h;have hl':cs.length=i.size:=by simpa using hl
    cases ht:t.isRow with
    | true =>
     simp only[ht,azT]at h;subst h;exact run_loadAt_mid w b o ty cs t hr hu ht (by rw[hi]; simp[hl'])
    | false =>
     simp only[ht]at h;cases cs with
     | nil=>simp at h
     | cons c cs =>
      cases cs with
      | cons _ _=>simp at h
      | nil =>
       obtain rfl:=az1 h;exact Vp.aae (by have:=hr 0 c I; simpa using this) hu ht
def part(ms:List fD)(k:Nat×Nat)(n:Nat):List Value:=match ms[k.1]? with | some m=>(m.2.2.drop k.2).take n | none=>[]
def adp(ms:List fD)(k:Nat×Nat):Nat×Nat:=match ms[k.1]? with | some m=>(m.1,m.2.1+k.2) | none=>(0,0)
inductive Key where
 | mem (k d:Nat)
 | idx (i len:Nat)
 | re (d:Nat) (v u:Value)
 | cmp (k:BinOp) (t:TypeId) (ox oy:Operand) (x y:Value) (V:Value)
 | new (d:Nat) (A:List Value) (sh:Option Nat) (r:Nat)
 | lds (l:List (Nat×Nat))
 | dead (d:Nat) (v:Value)
 | hand (d:Nat) (kv:List (Nat×Value))
 | slc (l h m c:Nat)
def shV(sh:Option Nat)(r:Nat):Value:=match sh with | none => .q r 0 | some m => .slice (some ⟨r,0,none⟩) m m
inductive Loc where
 | mem (b o:Nat)
 | idx (z:Int) (len:Nat)
 | re (v:Value)
 | cmp (k:BinOp) (t:TypeId) (ox oy:Operand) (x y:Value)
 | new (A:List Value) (v:Value)
 | lds (l:List (Nat×Nat))
 | dead
 | hand (l:List (Option Value))
 | slc (l h m:Int) (c:Nat)
def vX(ms:List fD):Key->Loc
 | .mem k d => .mem (adp ms (k,d)).1 (adp ms (k,d)).2
 | .idx i len => .idx (i:Int) len
 | .re _ v _ => .re v
 | .cmp k t ox oy x y _ => .cmp k t ox oy x y
 | .new _ A sh r => .new A (shV sh r)
 | .lds l => .lds (l.map (adp ms))
 | .dead _ _ => .dead
 | .hand _ kv => .hand (kv.map λp=>some p.2)
 | .slc l h m c => .slc (l:Int) (h:Int) (m:Int) c
def nI(nw:Prop)(P:Program):List Key->Prop
 | []=>True
 | .mem _ _::r=>nI nw P r
 | .idx i len::r=>i<len∧nI nw P r
 | .re _ v u::r=>v=u∧nI nw P r
 | .new _ _ _ _::r=>nw∧nI nw P r
 | .lds _::r=>nI nw P r
 | .dead _ _::r=>nI nw P r
 | .hand _ _::r=>nw∧nI nw P r
 | .slc l h m c::r=>(l<=h∧h<=m∧m<=c)∧nI nw P r
 | .cmp k t ox oy x y V::r=>(∀w,(do eqGuard k t ox oy x y; binOp k t x y:Sem Value).run P w = .ok V w)∧nI nw P r
abbrev yU (P:Program)(k:List Key):Prop:=nI False P k
theorem yU.app{nw:Prop}{P:Program}:∀{k r:List Key},nI nw P (k++r)->nI nw P k∧nI nw P r
 | [],_,h=>⟨G,h⟩
 | .mem _ _::k,r,h=>yU.app (k:=k) h
 | .lds _::k,r,h=>yU.app (k:=k) h
 | .dead _ _::k,r,h=>yU.app (k:=k) h
 | .hand _ _::k,r,h=>⟨⟨h.1,(yU.app (k:=k) h.2).1⟩,(yU.app (k:=k) h.2).2⟩
 | .slc _ _ _ _::k,r,h=>⟨⟨h.1,(yU.app (k:=k) h.2).1⟩,(yU.app (k:=k) h.2).2⟩
 | .idx _ _::k,r,h=>⟨⟨h.1,(yU.app (k:=k) h.2).1⟩,(yU.app (k:=k) h.2).2⟩
 | .re _ _ _::k,r,h=>⟨⟨h.1,(yU.app (k:=k) h.2).1⟩,(yU.app (k:=k) h.2).2⟩
 | .new _ _ _ _::k,r,h=>⟨⟨h.1,(yU.app (k:=k) h.2).1⟩,(yU.app (k:=k) h.2).2⟩
 | .cmp _ _ _ _ _ _ _::k,r,h=>⟨⟨h.1,(yU.app (k:=k) h.2).1⟩,(yU.app (k:=k) h.2).2⟩
theorem JF{ms:List fD}(h:Mem w ms)(k:Nat×Nat)(n:Nat):w.rangeAt (adp ms k).1 (adp ms k).2 (part ms k n):=by
 unfold part adp;cases hm:ms[k.1]? with
 | none=>intro j v hj; simp at hj
 | some m =>
  have:=(h m (List.mem_of_getElem? hm)).2;intro j v hj;simp only at hj |-;rw[List.getElem?_take]at hj;split at hj
  .rw[List.getElem?_drop]at hj;have h1:=this (k.2+j) v hj;rwa [<-aBR]at h1
  cases hj
def Ns{α:Type}(P:Program)(ms:List fD):Sem α->List (Nat×Nat)->Option (α×List (Nat×Nat))
 | .pure a,[]=>some (a,[])
 | .program k,ks=>Ns P ms (k P) ks
 | .mark _ k,ks=>Ns P ms k ks
 | .load _ ⟨b,o,none⟩ k,q::ks=>(match part ms q 1 with
  | [v]=>(match Ns P ms (k v) ks with | some (x,L)=>some (x,(b,o)::L) | none=>none)
  | _=>none)
 | _,_=>none
theorem Gp{α:Type}{P:Program}{ms:List fD}{w:World}(hm:Mem w ms):∀{s:Sem α} {ks L:List (Nat×Nat)} {x:α},Ns P ms s ks=some (x,L)->L=ks.map (adp ms)->s.run P w = .ok x w
 | .pure a,ks,L,x,h,hL=>by
  cases ks with
  | nil=>simp only[Ns,azT,azW]at h; rw[<-h.1]; rfl
  | cons _ _=>simp[Ns]at h
 | .program k,ks,L,x,h,hL=>by
  show(k P).run P w=_
  exact Gp hm (s:=k P) (by cases ks<;>exact h) hL
 | .mark _ k,ks,L,x,h,hL=>by
  show k.run P w=_
  exact Gp hm (s:=k) (by cases ks<;>exact h) hL
 | .load m a k,ks,L,x,h,hL=>by
  obtain⟨b,o,sp⟩:=a
  cases ks with
  | nil=>cases sp<;>simp[Ns]at h
  | cons q ks =>
   cases sp with
   | some _=>simp[Ns]at h
   | none =>
    unfold Ns at h
    split at h
    .rename_i v hp
     split at h
     .rename_i x' L' hr
      simp only[azT,azW]at h
      obtain⟨rfl,rfl⟩:=h
      simp only[aAE,aAp]at hL
      have h1:=JF hm q 1 0 v (by rw[hp]; rfl)
      rw[<-hL.1]at h1
      simp only[aBN]at h1
      unfold Sem.run
      rw[h1]
      exact Gp hm hr hL.2
     .cases h
    .cases h
 | .store ..,ks,_,_,h,_=>by cases ks<;>simp[Ns]at h
 | .new ..,ks,_,_,h,_=>by cases ks<;>simp[Ns]at h
 | .shape ..,ks,_,_,h,_=>by cases ks<;>simp[Ns]at h
 | .freeze ..,ks,_,_,h,_=>by cases ks<;>simp[Ns]at h
 | .frozen ..,ks,_,_,h,_=>by cases ks<;>simp[Ns]at h
 | .getObj ..,ks,_,_,h,_=>by cases ks<;>simp[Ns]at h
 | .setObj ..,ks,_,_,h,_=>by cases ks<;>simp[Ns]at h
 | .choose ..,ks,_,_,h,_=>by cases ks<;>simp[Ns]at h
 | .sys ..,ks,_,_,h,_=>by cases ks<;>simp[Ns]at h
 | .halt ..,ks,_,_,h,_=>by cases ks<;>simp[Ns]at h
def EM{α:Type}(P:Program)(r:Nat):Sem α->Option (List Value×TypeId×Sem α)
 | .new (.cells A ty fz) k=>(match fz==(0,0)with | true=>some (A.toList,ty,k r) | false=>none)
 | .program k=>EM P r (k P)
 | .mark _ k=>EM P r k
 | _=>none
theorem ni{α:Type}{P:Program}{w:World}{A:List Value}{ty:TypeId}{k:Sem α}:∀{s:Sem α},EM P w.heap.size s=some (A,ty,k)->s.run P w=k.run P (w.alloc (.cells A.toArray ty))
 | .new o k',h=>by
  cases o with
  | cells A' ty' fz =>
   unfold EM at h
   split at h
   .rename_i hfz
    simp only[azT,azW]at h
    obtain⟨rfl,rfl,rfl⟩:=h
    have:fz=(0,0):=by simpa using hfz
    subst this
    rfl
   .cases h
  | _=>cases h
 | .program k',h=>ni (s:=k' P) h
 | .mark _ k',h=>ni (s:=k') h
 | .pure a,h=>by cases h
 | .load ..,h=>by cases h
 | .store ..,h=>by cases h
 | .shape ..,h=>by cases h
 | .freeze ..,h=>by cases h
 | .frozen ..,h=>by cases h
 | .getObj ..,h=>by cases h
 | .setObj ..,h=>by cases h
 | .choose ..,h=>by cases h
 | .sys ..,h=>by cases h
 | .halt ..,h=>by cases h
inductive EZ where
 | val (v:Value)
 | enter (f:FuncId) (args:Array Value)
 | new
def iT:Option Next->Option EZ
 | some (.value v)=>some (.val v)
 | some (.enter f args)=>some (.enter f args)
 | _=>none
def zo:Op->Bool
 | .select _ _=>true
 | _=>false
def amq:Option Value->Option Value->Option Value
 | some (.bool A),some (.bool B)=>some (.bool (A&&B))
 | _,_=>none
def orV:Option Value->Option Value->Option Value
 | some (.bool A),some (.bool B)=>some (.bool (A||B))
 | _,_=>none
def isF:Operand->Bool
 | .const (.z)=>true
 | _=>false
def isT:Operand->Bool
 | .const (.bool true)=>true
 | _=>false
def pk(e:Env)(p:qj)(c x y:Operand):Option Value:=
 match c with
 | .tmp s=>(match isF y with
  | true=>amq (rd e p (.tmp s)) (rd e ((s,true)::p) x)
  | false=>(match isT x with
   | true=>orV (rd e p (.tmp s)) (rd e ((s,false)::p) y)
   | false=>none))
 | _=>none
theorem amr(h:isF y=true):y = .const (.z):=by
 cases y with
 | const v=>cases v with
  | bool b=>cases b with
   | false=>rfl
   | true=>cases h
  | _=>cases h
 | _=>cases h
theorem ams(h:isT y=true):y = .const (.bool true):=by
 cases y with
 | const v=>cases v with
  | bool b=>cases b with
   | true=>rfl
   | false=>cases h
  | _=>cases h
 | _=>cases h
theorem abV{y:Option Value}(h:amq x y=some v):∃A B,x=some (.bool A)∧y=some (.bool B)∧v = .bool (A&&B):=by
 unfold amq at h;split at h
 .obtain rfl:=az1 h; exact⟨_,_,I,I,I⟩
 cases h
theorem afI{y:Option Value}(h:orV x y=some v):∃A B,x=some (.bool A)∧y=some (.bool B)∧v = .bool (A||B):=by
 unfold orV at h;split at h
 .obtain rfl:=az1 h; exact⟨_,_,I,I,I⟩
 cases h
theorem abW{P:Program}{x:Operand}{A:Bool}{V:Value}(hop:o.op = .pick c x y)(hc:ρ c = .bool A)(hV:(if A=true then ρ x else ρ y)=V):(execOp ρ o).run P w = .ok (.value V) w:=by
 unfold execOp;rw[hop,<-hV];simp[hc,asBool,go_sem]
def ixv(P:Program)(t:TypeId)(x ix:Option Value):Option (Nat×Nat×Nat×Nat×Int):=
 match x,ix,P.underlying t with
 | some (.slice (some ⟨b,off,none⟩) len _),some (.int _ z),some (.slice e)=>(match P.info? e with | some i=>some (b,off,len,i.size,z) | none=>none)
 | _,_,_=>none
theorem afJ{P:Program}{ix:Option Value}{off:Nat}(h:ixv P t x ix=some (b,off,len,k,z)) :
  ∃c kd e,x=some (.slice (some ⟨b,off,none⟩) len c)∧ix=some (.int kd z)∧P.underlying t=some (.slice e)∧(P.info? e).map (·.size)=some k:=by
 unfold ixv at h;split at h
 .rename_i b' off' len' c kd z' e hu;split at h
  .rename_i i hi;simp only[azT,azW]at h;obtain⟨rfl,rfl,rfl,rfl,rfl⟩:=h;exact⟨_,_,_,I,I,hu,by rw[hi]; rfl⟩
  cases h
 cases h
def pJ(a:Option Addr)(l m k:Nat):Option Addr:=if m=l then a else a.map (·.add (l*k))
theorem Y9{P:Program}{e:TypeId}{a:Option Addr}{cap:Nat}(ht:P.underlying t=some (.slice e)){i:TypeInfo}(hi:P.info? e=some i)(hk:i.size=k){hi':Option Value}
  (hlo:lo=none∧l=0∨∃q,lo=some (.int q (l:Int))) (hhi:(hi'=none∧mx=none∧h=len)∨∃q,hi'=some (.int q (h:Int))) (hmx:mx=none∧m=cap∨∃q,mx=some (.int q (m:Int))) (h1:l<=h) (h2:h<=m) (h3:m<=cap) :
  (Instr.sliceAt t (.slice a len cap) lo hi' mx).run P w = .ok (.slice (pJ a l m k) (h-l) (m-l)) w:=by
 subst hk;have e1:((l:Int)<=h):=Z
 have e2:((h:Int)<=m):=Z
 have e3:((m:Int)<=cap):=Z
 have e4:((h:Int)<=cap):=Z
 rcases hlo with ⟨rfl,rfl⟩ | ⟨q1,rfl⟩<;>rcases hhi with ⟨rfl,rfl,rfl⟩ | ⟨q2,rfl⟩<;>rcases hmx with ⟨hm,rfl⟩ | ⟨q3,hm⟩<;>subst_vars<;>first | (cases hm; done) | skip
 all_goals simp_all [Instr.sliceAt,Instr.slice,run_underlying ht,Instr.sliceBounds,run_sliceBound,sizeOf,typeInfo,pJ]
def afK(d:Bool)(x:Option Value):Option Value:=match d with | true=>none | false=>x
def bnd(d:Bool)(x:Option Value)(z0:Int):Option Int:=match d with | true=>some z0 | false=>(match x with | some (.int _ z)=>some z | _=>none)
theorem JG{d:Bool}{z0:Int}(h:bnd d x z0=some z):(d=true∧z=z0)∨(d=false∧∃q,x=some (.int q z)):=by
 unfold bnd at h;split at h
 .exact .inl ⟨I,(az1 h).symm⟩
 split at h
 .obtain rfl:=az1 h; exact .inr ⟨I,_,I⟩
 cases h
def amu(P:Program)(t:TypeId)(x lo hi mx:Option Value)(dl dh dm:Bool)(l h m:Nat):Option (Value×Loc):=
 match x,P.underlying t with
 | some (.slice a len cap),some (.slice e)=>(match P.info? e,bnd dl lo 0,bnd dh hi len,bnd dm mx cap,!dh||dm with
  | some i,some zl,some zh,some zm,true=>some (.slice (pJ a l m i.size) (h-l) (m-l),.slc zl zh zm cap)
  | _,_,_,_,_=>none)
 | _,_=>none
theorem afL{P:Program}{x:Value}{hi:Option Value}{dl dh dm:Bool}{c:Nat}(hv:amu P t (some x) lo hi mx dl dh dm l h m=some (v,.slc (l:Int) (h:Int) (m:Int) c))(hk:l<=h∧h<=m∧m<=c) :
  (Instr.sliceAt t x (afK dl lo) (afK dh hi) (afK dm mx)).run P w = .ok v w:=by
 unfold amu at hv;split at hv
 .rename_i a len cap e hx hu;obtain rfl:=az1 hx;split at hv
  .rename_i i zl zh zm hi' hl' hh' hm' hd;simp only[azT,azW,Loc.slc.injEq]at hv;obtain⟨rfl,rfl,rfl,rfl,rfl⟩:=hv;refine Y9 hu hi' I ?_ ?_ ?_ hk.1 hk.2.1 hk.2.2
   .rcases JG hl' with ⟨rfl,h⟩ | ⟨rfl,q,rfl⟩
    .exact .inl ⟨I,Z⟩
    exact .inr ⟨q,I⟩
   .rcases JG hh' with ⟨rfl,h⟩ | ⟨rfl,q,rfl⟩
    .obtain rfl:dm=true:=by simpa using hd
     exact .inl ⟨I,I,Z⟩
    exact .inr ⟨q,I⟩
   rcases JG hm' with ⟨rfl,h⟩ | ⟨rfl,q,rfl⟩
   .exact .inl ⟨I,Z⟩
   exact .inr ⟨q,I⟩
  cases hv
 cases hv
def ev1(P:Program)(ms:List fD)(e:Env)(p:qj)(ks:List Key)(o:Oper):Option (EZ×List Key×List Loc):=
 match o.op with
 | .load ty x=>(match ks,rd e p x with
  | .mem k d::ks',some (.q b off)=>(match Ql P ty (part ms (k,d) (aqw P ty))with | some v=>some (.val v,ks',[.mem b off]) | none=>none)
  | _,_=>none)
 | .pick c x y=>(match pk e p c x y with | some v=>some (.val v,ks,[]) | none=>none)
 | .indexAddr t x ix=>(match ks,ixv P t (rd e p x) (rd e p ix)with
  | .idx i _::ks',some (b,off,len,k,z)=>some (.val (.pointer (some ⟨b,off+i*k,none⟩)),ks',[.idx z len])
  | _,_=>(match !(o.op.operands.all (λx=>(rd e p x).isSome))with
   | true=>none
   | false=>(match iT (ev0 P (execOp (yP e p) o))with | some r=>some (r,ks,[]) | none=>none)))
 | .binOp k t x y _=>(match ks,rd e p x,rd e p y with
  | .cmp _ _ _ _ _ _ V::ks',some u,some v=>some (.val V,ks',[.cmp k t x y u v])
  | _,some _,some _=>(match iT (ev0 P (execOp (yP e p) o))with | some r=>some (r,ks,[]) | none=>none)
  | _,_,_=>none)
 | op=>(match zo op || !op.operands.all (λx=>(rd e p x).isSome)with
  | true=>none
  | false=>(match ks with
   | .new d _ _ r0::ks'=>(match o.dst==some d with
    | true=>(match EM P r0 (execOp (yP e p) o)with
     | some (A,_,k)=>(match iT (ev0 P k)with | some (.val v)=>some (.new,ks',[.new A v]) | _=>none)
     | none=>none)
    | false=>(match iT (ev0 P (execOp (yP e p) o))with | some r=>some (r,ks,[]) | none=>none))
   | .hand d kv::ks'=>(match o.dst==some d&&kv.all (λq=>o.op.operands.any λy=>match y with | .tmp s=>s==q.1 | _=>false)with | true=>some (.new,ks',[.hand (kv.map λq=>rd e p (.tmp q.1))]) | false=>(match iT (ev0 P (execOp (yP e p) o))with | some r=>some (r,ks,[]) | none=>none))
   | .slc l h m _::ks'=>(match op with
    | .slice t x lo hi mx=>(match amu P t (rd e p x) (lo.bind (rd e p)) (hi.bind (rd e p)) (mx.bind (rd e p)) lo.isNone hi.isNone mx.isNone l h m with | some (v,L)=>some (.val v,ks',[L]) | none=>none)
    | _=>(match iT (ev0 P (execOp (yP e p) o))with | some r=>some (r,ks,[]) | none=>none))
   | .lds l::ks'=>(match Ns P ms (execOp (yP e p) o) l with
    | some (.value v,L)=>some (.val v,ks',[.lds L])
    | _=>none)
   | _=>(match iT (ev0 P (execOp (yP e p) o))with | some r=>some (r,ks,[]) | none=>none)))
def ren(d:Option Nat)(r:EZ×List Key×List Loc):EZ×List Key×List Loc:=
 match r with
 | (.val v,.re d' x u::ks,L)=>(match d==some d' with | true=>(.val u,ks,L++[.re v]) | false=>(.val v,.re d' x u::ks,L))
 | _=>r
def Gives(P:Program)(ρ:Operand->Value)(w:World)(o:Oper):EZ->Prop
 | .val v=>(execOp ρ o).run P w = .ok (.value v) w
 | .enter f args=>(execOp ρ o).run P w = .ok (.enter f args) w
 | .new=>True
def EO(ρ:Operand->Value)(e:Env)(o:Oper):Prop:=∀x∈o.op.operands,ZB ρ e x
theorem aqx{x:Operand}(hs:Std ρ)(hc:ZB ρ e c)(hx:ZB ρ e x)(hy:ZB ρ e y)(hg:jI e p=true)(h:pk e p c x y=some v) :
  ∃A,ρ c = .bool A∧(if A=true then ρ x else ρ y)=v:=by
 have key:∀(s:Nat) (A:Bool) (b:Bool),rd e p (.tmp s)=some (.bool A)->A=b->jI e ((s,b)::p)=true:=by
  intro s A b h1 h2;rw[uj];refine⟨hg,?_⟩;unfold rd at h1;cases hl:e.lookup s with
  | none=>simp[hl]at h1
  | some z =>
   obtain⟨q,u⟩:=z;dsimp only at h1;rw[hl]at h1;dsimp only at h1;split at h1
   .obtain rfl:=az1 h1;unfold tst;rw[hl];subst h2;cases A<;>rfl
   cases h1
 unfold pk at h;split at h
 .rename_i s;split at h
  .rename_i hF;obtain⟨A,B,h1,h2,rfl⟩:=abV h;refine⟨A,gX hs hc hg h1,?_⟩;cases hA:A with
   | true=>rw[azQ I,gX hs hx (key s A true h1 hA) h2]; rfl
   | false=>rw[azP Y,amr hF,hs.const]; rfl
  split at h
  .rename_i hT;obtain⟨A,B,h1,h2,rfl⟩:=afI h;refine⟨A,gX hs hc hg h1,?_⟩;cases hA:A with
   | true=>rw[azQ I,ams hT,hs.const]; rfl
   | false=>rw[azP Y,gX hs hy (key s A false h1 hA) h2]; rfl
  cases h
 cases h
theorem lS{P:Program}{r:EZ}(hs:Std ρ)(hR:EO ρ e o)(hg:jI e p=true)(h1:zo o.op=false)(h2:o.op.operands.all (λx=>(rd e p x).isSome)=true)
  (hv:iT (ev0 P (execOp (yP e p) o))=some r):Gives P ρ w o r:=by
 have hc:execOp ρ o=execOp (yP e p) o:=by
  refine execOp_congr o (λcs b e1=>by rw[e1]at h1; cases h1) λx hx=>?_;rw[aB7]at h2;obtain⟨v,hv⟩:=aAY.1 (h2 x hx);rw[gX hs (hR x hx) hg hv];simp[yP,hv]
 unfold iT at hv;split at hv
 .rename_i v h1;obtain rfl:=az1 hv;show(execOp ρ o).run P w=_;rw[hc]; exact nO h1
 .rename_i f args h1;obtain rfl:=az1 hv;show(execOp ρ o).run P w=_;rw[hc]; exact nO h1
 cases hv
theorem A8{k:Key}{ks' kl:List Key}(h:k::ks'=kl++ks'):kl=[k]:=by
 have hlen:kl.length=1:=by have:=az0 List.length h; simp at this; omega
 match kl,hlen with
 | [k2],_=>simp at h; rw[h]
theorem afM{P:Program}{ms:List fD}{ks ks':List Key}{r:EZ}{L:List Loc}
  (h:ev1 P ms e p ks o=some (r,ks',L)) (hs:Std ρ) (hR:EO ρ e o) (hg:jI e p=true) (hm:Mem w ms) (hL:∃kl,ks=kl++ks'∧L=kl.map (vX ms)∧nI nw P kl):Gives P ρ w o r:=by
 unfold ev1 at h;split at h
 .rename_i ty x hop;split at h
  .rename_i k d ks1 b off hr;split at h
   .rename_i v hv;simp only[azT,azW]at h;obtain⟨rfl,rfl,rfl⟩:=h;obtain⟨kl,e1,e2,_⟩:=hL;obtain rfl:=A8 e1;simp only[aAE,aA2,vX,aAp,and_true,Loc.mem.injEq]at e2;have hx:ρ x = .q b off:=gX hs (hR x (by simp[hop,Op.operands])) hg hr;have h1:=JF hm (k,d) (aqw P ty);rw[<-e2.1,<-e2.2]at h1;have h2:=Pv (w:=w) hv h1;show(execOp ρ o).run P w=_;unfold execOp;simp only[hop,hx,aAS,h2];rfl
   cases h
  cases h
 .rename_i c x y hop;split at h
  .rename_i v hv;simp only[azT,azW]at h;obtain⟨rfl,-,-⟩:=h;have hmem:∀z,z=c∨z=x∨z=y->ZB ρ e z:=λz hz=>hR z (by rw[hop]; simp[Op.operands]; exact hz);obtain⟨A,h1,h2⟩:=aqx hs (hmem c (.inl I)) (hmem x (.inr (.inl I))) (hmem y (.inr (.inr I))) hg hv;exact abW hop h1 h2
  cases h
 .rename_i t x ix hop;split at h
  .rename_i i n' ks1 b off len k z hix;simp only[azT,azW]at h;obtain⟨rfl,rfl,rfl⟩:=h;obtain⟨kl,e1,e2,hk⟩:=hL;obtain rfl:=A8 e1;simp only[aAE,aA2,vX,aAp,and_true,Loc.idx.injEq]at e2;obtain⟨rfl,rfl⟩:=e2;obtain⟨c,kd,e3,hx,hi,hu,hsz⟩:=afJ hix;have hmem:∀z,z=x∨z=ix->ZB ρ e z:=λz hz=>hR z (by rw[hop]; simp[Op.operands]; exact hz);exact Vp.abR i hop (gX hs (hmem x (.inl I)) hg hx) (gX hs (hmem ix (.inr I)) hg hi) hk.1 hu hsz
  split at h
  .cases h
  rename_i hal;split at h
  .rename_i r' hv;simp only[azT,azW]at h;obtain⟨rfl,-,-⟩:=h;exact lS hs hR hg (by rw[hop]; rfl) (by simpa using hal) hv
  cases h
 .rename_i k t x y yt hop;have hmem:∀z,z=x∨z=y->ZB ρ e z:=λz hz=>hR z (by rw[hop]; simp[Op.operands]; exact hz);split at h
  .rename_i k' t' ox oy x' y' V ks1 u v hu hv;simp only[azT,azW]at h;obtain⟨rfl,rfl,rfl⟩:=h;obtain⟨kl,e1,e2,hk⟩:=hL;obtain rfl:=A8 e1;simp only[aAE,aA2,vX,aAp,and_true,Loc.cmp.injEq]at e2;obtain⟨rfl,rfl,rfl,rfl,rfl,rfl⟩:=e2;have h1:=hk.1 w;show(execOp ρ o).run P w=_;unfold execOp;simp only[hop,gX hs (hmem x (.inl I)) hg hu,gX hs (hmem y (.inr I)) hg hv];simp only[aAS]at h1 |-;rw[h1];rfl
  .rename_i hu hv _;split at h
   .rename_i r' hr;simp only[azT,azW]at h;obtain⟨rfl,-,-⟩:=h;exact lS hs hR hg (by rw[hop]; rfl) (by rw[hop]; simp only[Op.operands]; simp[*]) hr
   cases h
  cases h
 split at h
 .cases h
 rename_i hsel;simp only[aAI]at hsel;split at h
 .split at h
  .split at h
   .split at h
    .simp only[azT,azW]at h;obtain⟨rfl,-,-⟩:=h;trivial
    cases h
   cases h
  split at h
  .rename_i r' hv;simp only[azT,azW]at h;obtain⟨rfl,-,-⟩:=h;exact lS hs hR hg hsel.1 (by simpa using hsel.2) hv
  cases h
 .split at h
  .simp only[azT,azW]at h;obtain⟨rfl,-,-⟩:=h;trivial
  split at h
  .rename_i r' hv;simp only[azT,azW]at h;obtain⟨rfl,-,-⟩:=h;exact lS hs hR hg hsel.1 (by simpa using hsel.2) hv
  cases h
 .rename_i l1 h1 m1 c1 ks1;split at h
  .rename_i t x lo hi mx hop;split at h
   .rename_i v L1 hsv;simp only[azT,azW]at h;obtain⟨rfl,rfl,rfl⟩:=h;obtain⟨kl,e1,e2,hk⟩:=hL;obtain rfl:=A8 e1;simp only[aAE,aA2,vX,aAp,and_true]at e2;subst e2;have hop':o.op = .slice t x lo hi mx:=by assumption
    have hall:=hsel.2;rw[hop']at hall;simp only[Op.operands,aBg,Array.all_append,az7,aB7,Option.mem_toArray]at hall;have hrd:∀y,(y=x∨lo=some y∨hi=some y∨mx=some y)->∃z,rd e p y=some z∧ρ y=z:=λy hy=>by
     have hs1:(rd e p y).isSome=true:=by
      rcases hy with rfl | h | h | h
      .exact hall.1.1.1 _ Y
      .exact hall.1.1.2 _ (by simp[h])
      .exact hall.1.2 _ (by simp[h])
      exact hall.2 _ (by simp[h])
     obtain⟨z,hz⟩:=aAY.1 hs1;refine⟨z,hz,gX hs (hR y ?_) hg hz⟩;rw[hop'];simp only[Op.operands,Array.mem_append,Option.mem_toArray];rcases hy with rfl | h | h | h
     .simp
     .simp[h]
     .simp[h]
     simp[h]
    obtain⟨xv,hx1,hx2⟩:=hrd x (.inl I);have amv:∀q:Option Operand,(∀y,q=some y->∃z,rd e p y=some z∧ρ y=z)->q.map ρ=afK q.isNone (q.bind (rd e p)):=λq hq=>by
     cases q with
     | none=>rfl
     | some y=>obtain⟨z,h1,h2⟩:=hq y I; simp[h1,h2,afK]
    show(execOp ρ o).run P w=_;unfold execOp;rw[hx1]at hsv;simp only[hop',hx2,amv lo λy h=>hrd y (.inr (.inl h)),amv hi λy h=>hrd y (.inr (.inr (.inl h))),amv mx λy h=>hrd y (.inr (.inr (.inr h))),aAS,afL hsv hk.1];rfl
   cases h
  split at h
  .rename_i r' hv;simp only[azT,azW]at h;obtain⟨rfl,-,-⟩:=h;exact lS hs hR hg hsel.1 (by simpa using hsel.2) hv
  cases h
 .rename_i l1 ks1;split at h
  .rename_i v L1 hev;simp only[azT,azW]at h;obtain⟨rfl,rfl,rfl⟩:=h;obtain⟨kl,e1,e2,_⟩:=hL;obtain rfl:=A8 e1;simp only[aAE,aA2,vX,aAp,and_true,Loc.lds.injEq]at e2;have hc:execOp ρ o=execOp (yP e p) o:=by
    refine execOp_congr o (λcs b e1=>by rw[e1]at hsel; cases hsel.1) λx hx=>?_;have h2:=hsel.2;simp only[aBg,aB7]at h2;obtain⟨z,hz⟩:=aAY.1 (h2 x hx);rw[gX hs (hR x hx) hg hz];simp[yP,hz]
   show(execOp ρ o).run P w=_;rw[hc];exact Gp hm hev e2
  cases h
 split at h
 .rename_i r' hv;simp only[azT,azW]at h;obtain⟨rfl,-,-⟩:=h;exact lS hs hR hg hsel.1 (by simpa using hsel.2) hv
 cases h
theorem XU{P:Program}{ms:List fD}{ks ks':List Key}{r:EZ}{L:List Loc}(h:ev1 P ms e p ks o=some (r,ks',L)):∃kl,ks=kl++ks'∧L.length=kl.length:=by
 have none:∀{r1:EZ} {k1:List Key},some (r1,k1,([]:List Loc))=some (r,ks',L)->k1=ks->∃kl,ks=kl++ks'∧L.length=kl.length:=by
  intro r1 k1 h hk;simp only[azT,azW]at h;obtain⟨-,rfl,rfl⟩:=h;exact⟨[],by simp[hk],I⟩
 unfold ev1 at h;split at h
 .split at h
  .split at h
   .simp only[azT,azW]at h;obtain⟨-,rfl,rfl⟩:=h;exact⟨[_],I,I⟩
   cases h
  cases h
 .split at h
  .exact none h I
  cases h
 .split at h
  .simp only[azT,azW]at h;obtain⟨-,rfl,rfl⟩:=h;exact⟨[_],I,I⟩
  split at h
  .cases h
  split at h
  .exact none h I
  cases h
 .split at h
  .simp only[azT,azW]at h;obtain⟨-,rfl,rfl⟩:=h;exact⟨[_],I,I⟩
  .split at h
   .exact none h I
   cases h
  cases h
 split at h
 .cases h
 split at h
 .split at h
  .split at h
   .split at h
    .simp only[azT,azW]at h;obtain⟨-,rfl,rfl⟩:=h;exact⟨[_],I,I⟩
    cases h
   cases h
  split at h
  .exact none h I
  cases h
 .split at h
  .simp only[azT,azW]at h;obtain⟨-,rfl,rfl⟩:=h;exact⟨[_],I,I⟩
  split at h
  .exact none h I
  cases h
 .split at h
  .split at h
   .simp only[azT,azW]at h;obtain⟨-,rfl,rfl⟩:=h;exact⟨[_],I,I⟩
   cases h
  split at h
  .exact none h I
  cases h
 .split at h
  .simp only[azT,azW]at h;obtain⟨-,rfl,rfl⟩:=h;exact⟨[_],I,I⟩
  cases h
 split at h
 .exact none h I
 cases h
theorem Qg{P:Program}{ms:List fD}{ks ks':List Key}{L:List Loc}(h:ev1 P ms e p ks o=some (.new,ks',L)) :
  (∃d A0 sh r0 A v ty k,ks = .new d A0 sh r0::ks'∧o.dst=some d∧L=[.new A v]∧EM P r0 (execOp (yP e p) o)=some (A,ty,k)∧ev0 P k=some (.value v)∧zo o.op=false∧o.op.operands.all (λx=>(rd e p x).isSome)=true)∨∃d kv,ks = .hand d kv::ks'∧o.dst=some d∧L=[.hand (kv.map λq=>rd e p (.tmp q.1))]∧∀q∈kv,.tmp q.1∈o.op.operands:=by
 have no:∀{x:Option Next} {k1:List Key},(match iT x with | some r=>some (r,k1,([]:List Loc)) | none=>none)=some (.new,ks',L)->False:=by
  intro x k1 h;split at h
  .rename_i r hr;simp only[azT,azW]at h;obtain⟨rfl,-,-⟩:=h;unfold iT at hr;split at hr<;>cases hr
  cases h
 unfold ev1 at h;split at h
 .split at h
  .split at h<;>cases h
  cases h
 .split at h<;>cases h
 .split at h
  .cases h
  split at h
  .cases h
  exact(no h).elim
 .split at h
  .cases h
  .exact(no h).elim
  cases h
 split at h
 .cases h
 rename_i hsel;simp only[aAI]at hsel;split at h
 .rename_i d A0 sh r0 ks1;split at h
  .rename_i hdd;split at h
   .rename_i A ty k hev;split at h
    .rename_i v hv;simp only[azT,azW]at h;obtain⟨-,rfl,rfl⟩:=h;refine .inl ⟨d,A0,sh,r0,A,v,ty,k,I,by simpa using hdd,I,hev,?_,hsel.1,by simpa using hsel.2⟩;unfold iT at hv;split at hv
     .rename_i h2; obtain h3:=az1 hv; rw[h2]; simp only[EZ.val.injEq]at h3; rw[h3]
     .cases hv
     cases hv
    cases h
   cases h
  exact(no h).elim
 .rename_i d kv ks1;split at h
  .rename_i hdd;simp only[azT,azW]at h;obtain⟨-,rfl,rfl⟩:=h;simp only[az7,az4,aAr]at hdd;refine .inr ⟨d,kv,I,hdd.1,I,λq hq=>?_⟩;have h3:=hdd.2 q hq;rw[Array.any_eq_true']at h3;obtain⟨y,hy,hs⟩:=h3;cases y<;>simp at hs;rw[<-hs]; exact hy
  exact(no h).elim
 .split at h
  .split at h<;>cases h
  exact(no h).elim
 .split at h<;>cases h
 exact(no h).elim
def evR(P:Program)(ms:List fD)(e:Env)(p:qj)(ks:List Key)(o:Oper):Option (EZ×List Key×List Loc):=
 match ev1 P ms e p ks o with
 | some r=>some (ren o.dst r)
 | none=>none
theorem yE(d:Option Nat)(r:EZ×List Key×List Loc):ren d r=r∨∃v d' x u ks L,r=(.val v,.re d' x u::ks,L)∧ren d r=(.val u,ks,L++[.re v]):=by
 unfold ren;split
 .rename_i v d' x u ks L;split
  .exact .inr ⟨v,d',x,u,ks,L,I,I⟩
  exact .inl I
 exact .inl I
theorem ah2{P:Program}{ms:List fD}{ks ks':List Key}{L:List Loc}(h:evR P ms e p ks o=some (.new,ks',L)):ev1 P ms e p ks o=some (.new,ks',L):=by
 unfold evR at h;cases h1:ev1 P ms e p ks o with
 | none=>simp[h1]at h
 | some r1 =>
  simp only[h1,azT]at h;rcases yE o.dst r1 with h2 | ⟨v,d',x,u,ks2,L2,h2,h3⟩
  .rw[h2]at h; rw[h]
  rw[h3]at h; simp at h
theorem ah3{P:Program}{ms:List fD}{ks ks':List Key}{r:EZ}{L L':List Loc}(h:evR P ms e p ks o=some (r,ks',L))(hL:L++L'=ks.map (vX ms))(hk:nI nw P ks) :
  (∃kl,ks=kl++ks'∧L=kl.map (vX ms)∧nI nw P kl)∧L'=ks'.map (vX ms)∧nI nw P ks':=by
 have key:∃kl,ks=kl++ks'∧L.length=kl.length:=by
  unfold evR at h;cases h1:ev1 P ms e p ks o with
  | none=>simp[h1]at h
  | some r1 =>
   simp only[h1,azT]at h;obtain⟨r1,k1,L1⟩:=r1;obtain⟨kl,hkl,hl⟩:=XU h1;rcases yE o.dst (r1,k1,L1)with h2 | ⟨v,d',x,u,ks2,L2,h2,h3⟩
   .rw[h2]at h;simp only[azW]at h;obtain⟨-,rfl,rfl⟩:=h;exact⟨kl,hkl,hl⟩
   rw[h3]at h;simp only[azW]at h h2;obtain⟨-,rfl,rfl⟩:=h;obtain⟨rfl,rfl,rfl⟩:=h2;exact⟨kl++[.re d' x u],by simp[hkl],by simp[hl]⟩
 obtain⟨kl,rfl,hl⟩:=key;rw[aAL]at hL;obtain⟨h1,h2⟩:=List.append_inj hL (by simpa using hl);exact⟨⟨kl,I,h1,(yU.app hk).1⟩,h2,(yU.app hk).2⟩
theorem amw{P:Program}{ms:List fD}{ks ks':List Key}{r:EZ}{L:List Loc}
  (h:evR P ms e p ks o=some (r,ks',L)) (hs:Std ρ) (hR:EO ρ e o) (hg:jI e p=true) (hm:Mem w ms) (hL:∃kl,ks=kl++ks'∧L=kl.map (vX ms)∧nI nw P kl):Gives P ρ w o r:=by
 unfold evR at h;cases h1:ev1 P ms e p ks o with
 | none=>simp[h1]at h
 | some r1 =>
  simp only[h1,azT]at h;obtain⟨r1,k1,L1⟩:=r1;rcases yE o.dst (r1,k1,L1)with h2 | ⟨v,d',x,u,ks2,L2,h2,h3⟩
  .rw[h2]at h;simp only[azW]at h;obtain⟨rfl,rfl,rfl⟩:=h;exact afM h1 hs hR hg hm hL
  rw[h3]at h;simp only[azW]at h h2;obtain⟨rfl,rfl,rfl⟩:=h;obtain⟨rfl,rfl,rfl⟩:=h2;obtain⟨kl,e1,e2,hk⟩:=hL;obtain⟨kl1,e3,e4⟩:=XU h1;have e5:kl=kl1++[.re d' x u]:=by
   have:kl++ks2=(kl1++[.re d' x u])++ks2:=by rw[<-e1,e3]; simp
   exact List.append_cancel_right this
  subst e5;rw[aAL]at e2;obtain⟨f1,f2⟩:=List.append_inj e2 (by simpa using e4);simp only[aAE,aA2,vX,aAp,and_true,Loc.re.injEq]at f2;obtain⟨g1,g2⟩:=yU.app hk;have hv:v=u:=f2.trans g2.1;rw[<-hv];exact afM h1 hs hR hg hm ⟨kl1,e3,f1,g1⟩
def hd1(e:Env):qj->Bool
 | []=>true
 | c::_=>tst e c.1 c.2
theorem ah4(h:hd1 e p=false):jI e p=false:=by
 cases p with
 | nil=>cases h
 | cons c r =>
  cases hg:jI e (c::r)with
  | false=>rfl
  | true =>
   have h2:=((uj e c r).1 hg).2;have h:tst e c.1 c.2=false:=h;rw[h]at h2; cases h2
def Zx(P:Program)(ms:List fD)(e:Env)(p:qj)(ks:List Key)(o:Oper):Option (EZ×List Key×List Loc):=
 match ks with
 | .dead d v::r=>(match o.dst==some d with
  | true=>(match hd1 e p with | false=>some (.val v,r,[.dead]) | true=>none)
  | false=>evR P ms e p ks o)
 | _=>evR P ms e p ks o
theorem yD{P:Program}{ms:List fD}{ks ks':List Key}{r:EZ}{L:List Loc}(h:Zx P ms e p ks o=some (r,ks',L)) :
  evR P ms e p ks o=some (r,ks',L)∨∃d v,ks = .dead d v::ks'∧r = .val v∧L=[.dead]∧jI e p=false:=by
 unfold Zx at h;split at h
 .rename_i d v r';split at h
  .split at h
   .rename_i hg;simp only[azT,azW]at h;obtain⟨rfl,rfl,rfl⟩:=h;exact .inr ⟨d,v,I,I,I,ah4 hg⟩
   cases h
  exact .inl h
 exact .inl h
theorem Qh{P:Program}{ms:List fD}{ks ks':List Key}{L:List Loc}(h:Zx P ms e p ks o=some (.new,ks',L)):ev1 P ms e p ks o=some (.new,ks',L):=by
 rcases yD h with h | ⟨_,_,_,h,_⟩
 .exact ah2 h
 cases h
theorem vF{P:Program}{ms:List fD}{ks ks':List Key}{r:EZ}{L L':List Loc}(h:Zx P ms e p ks o=some (r,ks',L))(hL:L++L'=ks.map (vX ms))(hk:nI nw P ks) :
  (∃kl,ks=kl++ks'∧L=kl.map (vX ms)∧nI nw P kl)∧L'=ks'.map (vX ms)∧nI nw P ks':=by
 rcases yD h with h | ⟨d,v,rfl,rfl,rfl,_⟩
 .exact ah3 h hL hk
 simp only[aBe,aAR,aAE,aAp]at hL;exact⟨⟨[.dead d v],I,I,G⟩,hL.2,hk⟩
theorem D8{P:Program}{ms:List fD}{ks ks':List Key}{r:EZ}{L:List Loc}
  (h:Zx P ms e p ks o=some (r,ks',L)) (hs:Std ρ) (hR:EO ρ e o) (hg:jI e p=true) (hm:Mem w ms) (hL:∃kl,ks=kl++ks'∧L=kl.map (vX ms)∧nI nw P kl):Gives P ρ w o r:=by
 rcases yD h with h | ⟨_,_,_,_,_,h⟩
 .exact amw h hs hR hg hm hL
 rw[hg]at h; cases h
def pathOf(ops:Array Oper)(e:Env)(o:Oper):Option qj:=
 match o.guard with
 | none=>some []
 | some (g,b)=>match (ops[g]?).bind (·.dst)with
  | some s=>(match e.lookup s with | some (q,.bool _)=>some ((s,b)::q) | _=>none)
  | none=>none
def put(e:Env)(d:Option Nat)(p:qj)(v:Value):Env:=match d with | some d=>(d,p,v)::e | none=>e
def xM(n:Nat)(e:Env)(d:Option Nat)(p:qj):Bool:=
 match d with
 | some d=>decide (d<n)&&(p.all (λc=>c.1 != d)&&e.all (λx=>x.2.1.all (λc=>c.1 != d)))
 | none=>true
abbrev Cl:=FuncId×Array Value×Bool×Value
abbrev ZC:=Cl×Option Nat×List Nat
abbrev T3:=Bool×Value×Bool
abbrev Out:=Env×List Loc×List ZC×List T3
def waits(ops:Array Oper)(o:Oper):List Nat:=o.after.toList.filterMap λg=>match Region.binds .any g with | true=>(ops[g.on]?).bind (·.dst) | false=>none
def exec(P:Program)(ms:List fD)(ops:Array Oper)(n:Nat):List Oper->Env->List Key->List Value->Option Out
 | [],e,ks,cs=>(match ks,cs with | [],[]=>some (e,[],[],[]) | _,_=>none)
 | o::os,e,ks,cs =>
  match pathOf ops e o with
  | none=>none
  | some p =>
   match xM n e o.dst p,Zx P ms e p ks o with
   | true,some (.val v,ks',L) =>
    (match exec P ms ops n os (put e o.dst p v) ks' cs with | some (e',L',C,T)=>some (e',L++L',C,(jI e p,v,true)::T) | none=>none)
   | true,some (.new,ks',L)=>(match cs with
    | v::cs'=>(match exec P ms ops n os (put e o.dst p v) ks' cs' with | some (e',L',C,T)=>some (e',L++L',C,(jI e p,v,false)::T) | none=>none)
    | []=>none)
   | true,some (.enter f args,ks',L)=>(match cs with
    | v::cs'=>(match exec P ms ops n os (put e o.dst p v) ks' cs' with | some (e',L',C,T)=>some (e',L++L',((f,args,jI e p,v),o.dst,waits ops o)::C,(jI e p,v,false)::T) | none=>none)
    | []=>none)
   | _,_=>none
def Obl(P:Program)(w:World):List Cl->Prop
 | []=>True
 | c::cs=>(∀w',Ext w w'->c.2.2.1=true->Calls P c.1 c.2.1 w' (λe w''=>e = .returned c.2.2.2∧Ext w' w''))∧Obl P w cs
theorem Obl.ext{P:Program}{w w':World}:∀{C:List Cl},Obl P w C->Ext w w'->Obl P w' C
 | [],_,_=>trivial
 | _::_,h,hE=>⟨λw'' h2=>h.1 w'' (K00 hE h2),Obl.ext h.2 hE⟩
theorem ah5{b:Bool}(h:s≠d):tst (put e (some d) p v) s b=tst e s b:=by
 unfold tst put;rw[aAG];have:(s==d)=false:=by simpa using h
 rw[this]
theorem Nu{e e':Env}:∀{q:qj},(∀c∈q,tst e c.1 c.2=tst e' c.1 c.2)->jI e q=jI e' q
 | [],_=>rfl
 | [c],h=>by simp only[jI]; exact h c Y
 | c::c2::r,h=>by
  simp only[jI]
  rw[Nu (q:=c2::r) (λx hx=>h x (by simp at hx |-; exact .inr hx)),h c Y]
theorem Gq(h:q.all (λc=>c.1 != d)=true):jI (put e (some d) p v) q=jI e q:=
 Nu λc hc=>ah5 (by rw[aAr]at h; simpa using h c hc)
theorem KT{x:qj×Value}(h:e.lookup i=some x):(i,x)∈e:=by
 induction e with
 | nil=>simp at h
 | cons y e ih =>
  rw[aAG]at h;by_cases hi:i=y.1
  .subst hi;simp only[aBB,azT]at h;subst h; simp
  have e1:(i==y.1)=false:=by simpa using hi
  rw[e1]at h;exact aA4 _ (ih h)
theorem JH{n:Nat}(h:xM n e (some d) p=true):d<n∧p.all (λc=>c.1 != d)=true∧∀i x,e.lookup i=some x->x.1.all (λc=>c.1 != d)=true:=by
 simp only[xM,az7,az6]at h;refine⟨h.1,h.2.1,λi x hx=>?_⟩;have h2:=h.2.2;rw[aAr]at h2;exact h2 _ (KT hx)
theorem D7{n:Nat}{d:Option Nat}{u:Value}(h:Holds a.eval e)(hsz:a.tmps.size=n)(hp:xM n e d p=true)(hu:u=den e (p,v)):Holds (a.put d u).eval (put e d p v):=by
 cases d with
 | none=>exact h
 | some d =>
  obtain⟨hd,h1,h2⟩:=JH hp;intro i x hx;by_cases hi:i=d
  .subst hi;simp only[put,aAG,aBB,azT]at hx;subst hx;unfold den;rw[Gq h1];have hlt:i<a.tmps.size:=Z
   have:(a.put (some i) u).eval (.tmp i)=u:=by simp[Act.eval,Act.put,hlt]
   rw[this,hu]; rfl
  have e1:(i==d)=false:=by simpa using hi
  simp only[put,aAG,e1]at hx;rw[mV (qB a (some d) u i (λe=>hi (az1 e).symm)),h i x hx];unfold den;rw[Gq (h2 i x hx)]
theorem UK{P:Program}{next:Act->World->Prop}{Q:Exit->Act->World->Prop}(h:(execOp a.eval o).run P w = .ok (.value v) w)(hn:next (a.put o.dst v) w):o.wp P a w next Q:=by
 unfold Oper.wp; rw[h]; exact hn
theorem rQ{ops:Array Oper}(hp:pathOf ops e o=some p)(h:∀x,(∃g,o.guard=some g∧(ops[g.1]?).bind (·.dst)=some x)->ZB a.eval e (.tmp x)):Region.wanted o (yielded ops a.tmps)=true↔jI e p=true:=by
 unfold pathOf at hp;cases hg:o.guard with
 | none =>
  rw[hg]at hp;obtain rfl:=az1 hp;simp[Region.wanted,hg,jI]
 | some gb =>
  obtain⟨g,b⟩:=gb;rw[hg]at hp;simp only at hp;cases hs:(ops[g]?).bind (·.dst)with
  | none=>simp[hs]at hp
  | some s =>
   simp only[hs]at hp;have hw:=zW (ops:=ops) (a:=a) hg;rw[hs]at hw;rw[hw];have hR:=h s ⟨_,hg,hs⟩;cases hl:e.lookup s with
   | none=>simp[hl]at hp
   | some x =>
    obtain⟨q,u⟩:=x;have hv:=hR s _ I hl;cases u<;>simp only[hl]at hp<;>try (cases hp)
    rename_i t;show a.eval (.tmp s)=_↔_;rw[hv,uj];unfold den tst;rw[hl];simp only;cases jI e q<;>cases b<;>cases t<;>simp[undef]
theorem iq(h:Holds ρ e)(o:Oper):EO ρ e o:=λ_ _ i y _ hl=>h i y hl
theorem Qi{P:Program}{ms:List fD}{ops:Array Oper}{n:Nat}{Q:Exit->Act->World->Prop}{rest:List Oper}:∀(os:List Oper) {e e':Env} {ks:List Key} {L:List Loc} {C:List ZC} {T:List T3} {cs:List Value} {a:Act} {w:World},
  exec P ms ops n os e ks cs=some (e',L,C,T)->a.tmps.size=n->Holds a.eval e->Mem w ms->L=ks.map (vX ms)->yU P ks->Obl P w (C.map (·.1)) ->
  (∀a' w',Ext w w'->(C=[]->w'=w)->a'.tmps.size=n->a'.defers=a.defers->Holds a'.eval e'->wpList P ops Q rest a' w')->wpList P ops Q (os++rest) a w
 | [],e,e',ks,L,C,T,cs,a,w,hx,hsz,hh,hm,hL,hk0,hO,hn=>by
  unfold exec at hx
  split at hx
  .simp only[azT,azW]at hx
   obtain⟨rfl,-,-,-⟩:=hx
   exact hn a w K01 (λ_=>I) hsz I hh
  .cases hx
 | o::os,e,e',ks,L,C,T,cs,a,w,hx,hsz,hh,hm,hL,hk0,hO,hn=>by
  unfold exec at hx
  cases hp:pathOf ops e o with
  | none=>simp[hp]at hx
  | some p =>
   simp only[hp]at hx
   have hw:=rQ (a:=a) hp (λx _ i y _ hl=>hh i y hl)
   cases hpo:xM n e o.dst p with
   | false=>simp[hpo]at hx
   | true =>
    cases h1:Zx P ms e p ks o with
    | none=>simp[hpo,h1]at hx
    | some r =>
     obtain⟨r,ks',L1⟩:=r
     have go:∀v (C':List ZC) L' T' cs',exec P ms ops n os (put e o.dst p v) ks' cs'=some (e',L',C',T')->L1++L'=ks.map (vX ms)->Obl P w (C'.map (·.1))->(C'=[]->C=[]∨jI e p=true->True) ->
       ∀u w1,u=den e (p,v)->Ext w w1->(C'=[]->w1=w∨C≠[])->(C=[]->C'=[])->wpList P ops Q (os++rest) (a.put o.dst u) w1:=by
      intro v C' L' T' cs' hx' hL' hO' _ u w1 hu hE hw1 hCC
      obtain⟨_,hL2,hk2⟩:=vF h1 hL' hk0
      refine Qi os hx' (by rw[sS]; exact hsz) (D7 hh hsz hpo hu) (hm.ext hE) hL2 hk2 (hO'.ext hE) λa' w' hE' hC' hsz' hd' hh'=>?_
      refine hn a' w' (K00 hE hE') (λhc=>?_) hsz' (by rw[hd',put_defers]) hh'
      rw[hC' (hCC hc)]
      rcases hw1 (hCC hc)with h | h
      .exact h
      .exact absurd hc h
     cases r with
     | val v =>
      simp only[hpo,h1]at hx
      cases hx':exec P ms ops n os (put e o.dst p v) ks' cs with
      | none=>simp[hx']at hx
      | some z =>
       obtain⟨e1,L',C',T'⟩:=z
       simp only[hx',azT,azW]at hx
       obtain⟨rfl,rfl,rfl,-⟩:=hx
       show wpList P ops Q (o::(os++rest)) a w
       unfold wpList
       by_cases hG:jI e p=true
       .rw[azQ (hw.2 hG)]
        left
        refine UK (D8 h1 (Std.act a) (iq hh o) hG hm (vF h1 hL hk0).1) ?_
        exact go v _ _ _ _ hx' hL hO (λ_ _=>G) v w (by simp[den,hG]) K01 (λ_ => .inl I) (λh=>h)
       .rw[azP (λh=>hG (hw.1 h))]
        exact go v _ _ _ _ hx' hL hO (λ_ _=>G) undef w (by simp[den,hG]) K01 (λ_ => .inl I) (λh=>h)
     | new =>
      rcases Qg (Qh h1)with ⟨_,_,_,_,_,_,_,_,rfl,_⟩ | ⟨_,_,rfl,_⟩<;>exact hk0.1.elim
     | enter f args =>
      simp only[hpo,h1]at hx
      cases cs with
      | nil=>simp at hx
      | cons v cs' =>
       simp only at hx
       cases hx':exec P ms ops n os (put e o.dst p v) ks' cs' with
       | none=>simp[hx']at hx
       | some z =>
        obtain⟨e1,L',C',T'⟩:=z
        simp only[hx',azT,azW]at hx
        obtain⟨rfl,rfl,rfl,-⟩:=hx
        show wpList P ops Q (o::(os++rest)) a w
        unfold wpList
        by_cases hG:jI e p=true
        .rw[azQ (hw.2 hG)]
         left
         have h2:=D8 h1 (Std.act a) (iq hh o) hG hm (vF h1 hL hk0).1
         unfold Oper.wp
         rw[h2]
         simp only[Oper.upon]
         refine(hO.1 w K01 hG).mono λe2 w2 hk=>?_
         obtain⟨rfl,hE⟩:=hk
         exact go v _ _ _ _ hx' hL hO.2 (λ_ _=>G) v w2 (by simp[den,hG]) hE (λ_ => .inr Y) (λh=>by cases h)
        .rw[azP (λh=>hG (hw.1 h))]
         exact go v _ _ _ _ hx' hL hO.2 (λ_ _=>G) undef w (by simp[den,hG]) K01 (λ_ => .inl I) (λh=>by cases h)
def ZE(dl:List (Option Nat))(i:Nat)(af:List Edge)(s:Nat):Bool:=
 dl.zipIdx.all λx=>x.1 != some s||(decide (x.2<i)&&af.any (λg=>g.on==x.2&&Region.binds .any g))
def slotsOf(ops:Array Oper)(o:Oper):List Nat:=
 o.op.operands.toList.filterMap (λx=>match x with | .tmp s=>some s | _=>none) ++
  (match o.guard with | some (g,_)=>(match (ops[g]?).bind (·.dst)with | some s=>[s] | none=>[]) | none=>[])
def rV(ops:Array Oper)(hd:List Oper):Bool:=
 hd.zipIdx.all λx=>x.1.dst.isSome&&(slotsOf ops x.1).all (ZE (hd.map (·.dst)) x.2 x.1.after.toList)
theorem yF{α:Type}{l:List α}{x:α}(h:l[i]?=some x):(x,i)∈l.zipIdx:=by
 rw[List.mem_zipIdx_iff_getElem?]; exact h
theorem yG{dl:List (Option Nat)}{af:List Edge}(h:ZE dl i af s=true){j:Nat}(hj:dl[j]?=some (some s)):j<i∧∃g∈af,g.on=j∧Region.binds .any g=true:=by
 unfold ZE at h;rw[aAr]at h;have:=h _ (yF hj);simp only[bne_self_eq_false,Bool.false_or,az7,az6,List.any_eq_true,az4]at this;obtain⟨h1,g,h2,h3,h4⟩:=this;exact⟨h1,g,h2,h3,h4⟩
def XZ(x:T3):Fact:=Rel.is (_root_.cond x.1 x.2.1 undef)
def Trk(hd:List Oper)(Ta:List T3)(e0:Env)(i:Nat)(e:Env):Prop:=∀s x,e.lookup s=some x ->
 (∃(j:Nat) (o:Oper),j<i∧hd[j]?=some o∧o.dst=some s∧∃k,Ta[j]?=some (jI e x.1,x.2,k))∨((∀(j:Nat) (o:Oper),j<i->hd[j]?=some o->o.dst≠some s)∧e0.lookup s=some x)
theorem Trk.put{hd:List Oper}{Ta:List T3}{e0 e:Env}{i n:Nat}{p:qj}{v:Value}{o:Oper}{d:Nat}{kk:Bool}(h:Trk hd Ta e0 i e)(ho:hd[i]?=some o)(hd':o.dst=some d)(hT:Ta[i]?=some (jI e p,v,kk))(hp:xM n e (some d) p=true) :
  Trk hd Ta e0 (i+1) (put e (some d) p v):=by
 obtain⟨_,h1,h2⟩:=JH hp;intro s x hx;by_cases hs:s=d
 .subst hs;simp only[Sx.put,aAG,aBB,azT]at hx;subst hx;exact .inl ⟨i,o,Z,ho,hd',kk,by rw[hT]; show some (jI e p,v,kk)=some (jI (Sx.put e (some s) p v) p,v,kk); rw[Gq h1]⟩
 have e1:(s==d)=false:=by simpa using hs
 simp only[Sx.put,aAG,e1]at hx;rcases h s x hx with ⟨j,oj,hj,hoj,hdj,k,hTj⟩ | ⟨hno,h0⟩
 .exact .inl ⟨j,oj,Z,hoj,hdj,k,by rw[hTj]; show some (jI e x.1,x.2,k)=some (jI (Sx.put e (some d) p v) x.1,x.2,k); rw[Gq (h2 s x hx)]⟩
 refine .inr ⟨λj oj hj hoj hdj=>?_,h0⟩;rcases aAH j i with hlt | hge
 .exact hno j oj hlt hoj hdj
 obtain rfl:j=i:=by omega
 rw[ho]at hoj;obtain rfl:=az1 hoj;rw[hd']at hdj;exact hs (az1 hdj).symm
section
variable{P:Program}{ms:List fD}{ops:Array Oper}{n:Nat}{hd:List Oper}{Ta:List T3}{e0:Env}{Dn:Operand->Value}{w0:World}
theorem amx{i:Nat}{e:Env}{o:Oper}{ρ:Operand->Value}{w:World}(ht:Trk hd Ta e0 i e)(ho:hd[i]?=some o)(hops:∀(j:Nat) o,hd[j]?=some o->ops[j]?=some o)(D9:rV ops hd=true)(h0:Holds Dn e0)(he0:∀s x,e0.lookup s=some x->x.1=[])
  (hOut:Rel.Out hd ρ Dn) (hd':Rel.QL ops (Ta.map XZ) ρ w o.after.toList) {s:Nat} (hs:s∈slotsOf ops o):ZB ρ e (.tmp s):=by
 have key:∀es:List Edge,Rel.QL ops (Ta.map XZ) ρ w es->∀g∈es,Region.binds .any g=true->(Ta.map XZ).getD g.on top (Rel.valOf ρ ((ops[g.on]?).bind (·.dst))) w:=by
  intro es;induction es with
  | nil=>intro _ g hg; cases hg
  | cons x es ih =>
   intro h g hg hb;rcases az2.1 hg with rfl | hg
   .exact h.1 hb
   exact ih h.2 g hg hb
 intro s' x hss hl;obtain rfl:=Operand.tmp.inj hss;unfold rV at D9;rw[aAr]at D9;have h1:=D9 _ (yF ho);simp only[az7,aAr]at h1;have h2:=h1.2 s hs;rcases ht s x hl with ⟨j,oj,hj,hoj,hdj,k,hTj⟩ | ⟨hno,h3⟩
 .have hdl:(hd.map (·.dst))[j]?=some (some s):=by rw[List.getElem?_map,hoj,aAF,hdj]
  obtain⟨_,g,hg,rfl,hb⟩:=yG h2 hdl;have h3:=key _ hd' g hg hb;rw[hops _ _ hoj]at h3;simp only[aBP,hdj]at h3;have e1:(Ta.map XZ).getD g.on top=XZ (jI e x.1,x.2,k):=by simp[List.getD,List.getElem?_map,hTj]
  rw[e1]at h3;exact h3
 have hall:hd.all (λo => !(o.dst==some s))=true:=by
  rw[aAr];intro oj hoj;obtain⟨j,hj⟩:=List.getElem?_of_mem hoj;simp only[aBt,aAh];intro hdj;have hdl:(hd.map (·.dst))[j]?=some (some s):=by rw[List.getElem?_map,hj,aAF,hdj]
  obtain⟨hlt,_⟩:=yG h2 hdl;exact hno j oj hlt hj hdj
 rw[hOut s hall,h0 s x h3];unfold den;rw[he0 s x h3];rfl
theorem xQ{o:Oper}{v:Value}(h:o.dst.isSome=true):kept o v=v:=by
 unfold kept;cases hd:o.dst with
 | none=>rw[hd]at h; cases h
 | some _=>rfl
theorem JI(hops:∀(j:Nat) o,hd[j]?=some o->ops[j]?=some o)(D9:rV ops hd=true)(h0:Holds Dn e0)(he0:∀s x,e0.lookup s=some x->x.1=[])(hm:Mem w0 ms) :
  ∀(os:List Oper) (i:Nat) {e e':Env} {ks:List Key} {L:List Loc} {C:List ZC} {T:List T3} {cs:List Value},hd.drop i=os->Ta.drop i=T->Trk hd Ta e0 i e->exec P ms ops n os e ks cs=some (e',L,C,T)->L=ks.map (vX ms)->yU P ks->Obl P w0 (C.map (·.1)) ->
  Rel.rX P ops hd (Ta.map XZ) Ext (λw=>Ext w0 w) Dn os (T.map XZ)
 | [],i,e,e',ks,L,C,T,cs,_,_,_,_,_,_,_=>by cases T<;>trivial
 | o::os,i,e,e',ks,L,C,T,cs,hos,hTa,ht,hx,hL,hk0,hO=>by
  have ho:hd[i]?=some o:=by have:=az0 List.head? hos; simpa[List.head?_drop]using this
  have ah6:hd.drop (i+1)=os:=by have:=az0 List.tail hos; simpa[List.tail_drop]using this
  have hdst:o.dst.isSome=true:=by
   unfold rV at D9
   rw[aAr]at D9
   have h1:=D9 _ (yF ho)
   simp only[az7]at h1
   exact h1.1
  obtain⟨d,hd1⟩:=aAY.1 hdst
  unfold exec at hx
  cases hp:pathOf ops e o with
  | none=>simp[hp]at hx
  | some p =>
   simp only[hp]at hx
   cases hpo:xM n e o.dst p with
   | false=>simp[hpo]at hx
   | true =>
    cases h1:Zx P ms e p ks o with
    | none=>simp[hpo,h1]at hx
    | some r =>
     obtain⟨r,ks',L1⟩:=r
     have obl:∀v kk,(∀ρ w,Std ρ->EO ρ e o->jI e p=true->Ext w0 w->(∃kl,ks=kl++ks'∧L1=kl.map (vX ms)∧yU P kl)->Does P o ρ w (λu w'=>Ext w w'∧XZ (jI e p,v,kk) (kept o u) w'))->(∃kl,ks=kl++ks'∧L1=kl.map (vX ms)∧yU P kl) ->
       Rel.sO P ops hd (Ta.map XZ) Ext (λw=>Ext w0 w) Dn o (XZ (jI e p,v,kk)):=by
      intro v kk hdo hkl ρ w hs hOut hC hD
      have hrd:∀s∈slotsOf ops o,ZB ρ e (.tmp s):=λs hs'=>amx ht ho hops D9 h0 he0 hOut hD hs'
      have hR:EO ρ e o:=by
       intro x hx
       cases x with
       | tmp s =>
        refine hrd s (aBY _ ?_)
        rw[aBm]
        exact⟨.tmp s,by simpa using hx,I⟩
       | const _=>intro i y h; cases h
       | global _=>intro i y h; cases h
       | func _=>intro i y h; cases h
      cases hg:o.guard with
      | none =>
       unfold pathOf at hp
       rw[hg]at hp
       obtain rfl:=az1 hp
       exact hdo ρ w hs hR I hC hkl
      | some gb =>
       obtain⟨g,b⟩:=gb
       have hiff:Rel.valOf ρ ((ops[g]?).bind (·.dst)) = .bool b↔jI e p=true:=by
        unfold pathOf at hp
        rw[hg]at hp
        simp only at hp
        cases hs':(ops[g]?).bind (·.dst)with
        | none=>simp[hs']at hp
        | some s =>
         simp only[hs']at hp
         have hR1:ZB ρ e (.tmp s):=hrd s (aBH _ (by rw[hg]; simp[hs']))
         cases hl:e.lookup s with
         | none=>simp[hl]at hp
         | some x =>
          obtain⟨q,u⟩:=x
          have hv:=hR1 s _ I hl
          cases u<;>simp only[hl]at hp<;>try (cases hp)
          rename_i t
          show ρ (.tmp s)=_↔_
          rw[hv,uj]
          unfold den tst
          rw[hl]
          simp only
          cases jI e q<;>cases b<;>cases t<;>simp[undef]
       refine⟨λhv=>hdo ρ w hs hR (hiff.1 hv) hC hkl,λhv=>?_⟩
       have:jI e p=false:=by
        cases h:jI e p with
        | false=>rfl
        | true=>exact absurd (hiff.2 h) hv
       show undef=_root_.cond (jI e p) v undef
       rw[this]; rfl
     cases r with
     | val v =>
      simp only[hpo,h1]at hx
      cases hx':exec P ms ops n os (put e o.dst p v) ks' cs with
      | none=>simp[hx']at hx
      | some z =>
       obtain⟨e1,L',C',T'⟩:=z
       simp only[hx',azT,azW]at hx
       obtain⟨rfl,rfl,rfl,rfl⟩:=hx
       obtain⟨hkl,hL2,hk2⟩:=vF h1 hL hk0
       have hTi:Ta[i]?=some (jI e p,v,true):=by have:=az0 List.head? hTa; simpa[List.head?_drop]using this
       have afN:Ta.drop (i+1)=T':=by have:=az0 List.tail hTa; simpa[List.tail_drop]using this
       refine⟨obl v _ (λρ w hs hR hG hC hk=>?_) hkl,?_⟩
       .refine QO (D8 h1 hs hR hG (hm.ext hC) hk) K01 ?_
        rw[xQ hdst]
        show v=_root_.cond (jI e p) v undef
        rw[hG]; rfl
       .rw[hd1]at hx' hpo
        exact JI hops D9 h0 he0 hm os (i+1) ah6 afN (ht.put ho hd1 hTi hpo) hx' hL2 hk2 hO
     | new =>
      rcases Qg (Qh h1)with ⟨_,_,_,_,_,_,_,_,rfl,_⟩ | ⟨_,_,rfl,_⟩<;>exact hk0.1.elim
     | enter f args =>
      simp only[hpo,h1]at hx
      cases cs with
      | nil=>simp at hx
      | cons v cs' =>
       simp only at hx
       cases hx':exec P ms ops n os (put e o.dst p v) ks' cs' with
       | none=>simp[hx']at hx
       | some z =>
        obtain⟨e1,L',C',T'⟩:=z
        simp only[hx',azT,azW]at hx
        obtain⟨rfl,rfl,rfl,rfl⟩:=hx
        obtain⟨hkl,hL2,hk2⟩:=vF h1 hL hk0
        have hTi:Ta[i]?=some (jI e p,v,false):=by have:=az0 List.head? hTa; simpa[List.head?_drop]using this
        have afN:Ta.drop (i+1)=T':=by have:=az0 List.tail hTa; simpa[List.tail_drop]using this
        refine⟨obl v _ (λρ w hs hR hG hC hk=>?_) hkl,?_⟩
        .refine Dp (D8 h1 hs hR hG (hm.ext hC) hk) ?_
         refine(hO.1 w hC hG).mono λe2 w2 hk3=>?_
         obtain⟨rfl,hE⟩:=hk3
         refine⟨v,I,hE,?_⟩
         rw[xQ hdst]
         show v=_root_.cond (jI e p) v undef
         rw[hG]; rfl
        .rw[hd1]at hx' hpo
         exact JI hops D9 h0 he0 hm os (i+1) ah6 afN (ht.put ho hd1 hTi hpo) hx' hL2 hk2 hO.2
end
theorem UO{P:Program}{ms:List fD}{ops:Array Oper}{n:Nat}{K:Act->Prop}{w:World}:∀(os:List Oper) {e e':Env} {ks:List Key} {L:List Loc} {C:List ZC} {T:List T3} {cs:List Value} {a:Act},
  exec P ms ops n os e ks cs=some (e',L,C,T)->a.tmps.size=n->Holds a.eval e->(∀a',a'.tmps.size=n->a'.defers=a.defers->Holds a'.eval e'->K a')->Rel.End K w os (T.map XZ) a
 | [],e,e',ks,L,C,T,cs,a,hx,hsz,hh,hK=>by
  unfold exec at hx
  split at hx
  .simp only[azT,azW]at hx
   obtain⟨rfl,-,-,rfl⟩:=hx
   exact hK a hsz I hh
  .cases hx
 | o::os,e,e',ks,L,C,T,cs,a,hx,hsz,hh,hK=>by
  unfold exec at hx
  cases hp:pathOf ops e o with
  | none=>simp[hp]at hx
  | some p =>
   simp only[hp]at hx
   cases hpo:xM n e o.dst p with
   | false=>simp[hpo]at hx
   | true =>
    cases h1:Zx P ms e p ks o with
    | none=>simp[hpo,h1]at hx
    | some r =>
     obtain⟨r,ks',L1⟩:=r
     have go:∀v kk L' C' T' cs',exec P ms ops n os (put e o.dst p v) ks' cs'=some (e',L',C',T')->Rel.End K w (o::os) (((jI e p,v,kk)::T').map XZ) a:=by
      intro v kk L' C' T' cs' hx' u hu
      refine UO os hx' (by rw[sS]; exact hsz) (D7 hh hsz hpo hu) λa' h1 h2 h3=>hK a' h1 (by rw[h2,put_defers]) h3
     cases r with
     | val v =>
      simp only[hpo,h1]at hx
      cases hx':exec P ms ops n os (put e o.dst p v) ks' cs with
      | none=>simp[hx']at hx
      | some z =>
       obtain⟨e1,L',C',T'⟩:=z
       simp only[hx',azT,azW]at hx
       obtain⟨rfl,rfl,rfl,rfl⟩:=hx
       exact go v _ _ _ _ _ hx'
     | new =>
      simp only[hpo,h1]at hx
      cases cs with
      | nil=>simp at hx
      | cons v cs' =>
       simp only at hx
       cases hx':exec P ms ops n os (put e o.dst p v) ks' cs' with
       | none=>simp[hx']at hx
       | some z =>
        obtain⟨e1,L',C',T'⟩:=z
        simp only[hx',azT,azW]at hx
        obtain⟨rfl,rfl,rfl,rfl⟩:=hx
        exact go v _ _ _ _ _ hx'
     | enter f args =>
      simp only[hpo,h1]at hx
      cases cs with
      | nil=>simp at hx
      | cons v cs' =>
       simp only at hx
       cases hx':exec P ms ops n os (put e o.dst p v) ks' cs' with
       | none=>simp[hx']at hx
       | some z =>
        obtain⟨e1,L',C',T'⟩:=z
        simp only[hx',azT,azW]at hx
        obtain⟨rfl,rfl,rfl,rfl⟩:=hx
        exact go v _ _ _ _ _ hx'
