/- A walk by reckoning: the operations of a region are -/
import Derived.Test.YtodpgjjgaddkeaaGreatDoorPk4
namespace Go.Sx
open Go.Proofs.YtodpgjjgaddkeaaGreatDoor Go.RowKit Go.Rel
set_option linter.unusedVariables false
set_option linter.unusedSimpArgs false
abbrev L (l:List Value):List Value:=l
def zr:List Value:=[.z,.sn,.z,.sn]
def za:List Value:=zr++zr++zr++zr++zr++zr
def ev0{α:Type}(P:Program):Sem α→Option α
 | .pure a=>some a
 | .program k=>ev0 P (k P)
 | .mark _ k=>ev0 P k
 | _=>none
theorem nJ{α:Type}{P:Program}{w:World}:∀{s:Sem α} {x:α},ev0 P s=some x→s.run P w = .ok x w
 | .pure a,x,h=>by obtain rfl:=azF h; rfl
 | .program k,x,h=>by
  show(k P).run P w=_
  exact nJ (s:=k P) h
 | .mark _ k,x,h=>by
  show k.run P w=_
  exact nJ (s:=k) h
 | .load ..,_,h=>by cases h
 | .store ..,_,h=>by cases h
 | .new ..,_,h=>by cases h
 | .shape ..,_,h=>by cases h
 | .freeze ..,_,h=>by cases h
 | .frozen ..,_,h=>by cases h
 | .getObj ..,_,h=>by cases h
 | .setObj ..,_,h=>by cases h
 | .choose ..,_,h=>by cases h
 | .sys ..,_,h=>by cases h
 | .halt ..,_,h=>by cases h
abbrev pW:=List (Nat×Bool)
abbrev Env:=List (Nat×pW×Value)
def tst(e:Env)(s:Nat)(b:Bool):Bool:=
 match e.lookup s with
 | some (_,.bool t)=>(match b with | true=>t | false => !t)
 | _=>false
def jF(e:Env):pW→Bool
 | []=>true
 | [p]=>tst e p.1 p.2
 | p::q::r=>jF e (q::r)&&tst e p.1 p.2
theorem tN(e:Env)(p:Nat×Bool)(r:pW):jF e (p::r)=true↔jF e r=true∧tst e p.1 p.2=true:=by
 cases r with
 | nil=>simp[jF]
 | cons q r=>simp[jF]
theorem Y9(e:Env):∀p:pW,jF e p=true↔∀c∈p,tst e c.1 c.2=true
 | []=>by simp[jF]
 | p::r=>by rw[tN,Y9 e r]; simp[and_comm]
theorem ahI{e:Env}{p q:pW}(h:q.all (fun c=>p.contains c)=true)(hp:jF e p=true):jF e q=true:=by
 rw[Y9]at hp ⊢;intro c hc;rw[az5]at h;exact hp c (by simpa using h c hc)
def den(e:Env)(x:pW×Value):Value:=_root_.cond (jF e x.1) x.2 undef
def Holds(ρ:Operand→Value)(e:Env):Prop:=∀i x,e.lookup i=some x→ρ (.tmp i)=den e x
def rd(e:Env)(p:pW):Operand→Option Value
 | .tmp i=>match e.lookup i with | some (q,v)=>(match q.all (fun c=>p.contains c)with | true=>some v | false=>none) | none=>none
 | .const v=>some v
 | .global g=>some (.q g 0)
 | .func f=>some (.func (.func f) #[] #[])
def yc(e:Env)(p:pW)(x:Operand):Value:=(rd e p x).getD undef
def Za(ρ:Operand→Value)(e:Env)(x:Operand):Prop:=∀i y,x = .tmp i→e.lookup i=some y→ρ (.tmp i)=den e y
theorem gV{ρ:Operand→Value}{e:Env}{p:pW}{x:Operand}{v:Value}(hs:Std ρ)(h:Za ρ e x)(hg:jF e p=true)(hr:rd e p x=some v):ρ x=v:=by
 cases x with
 | const c=>rw[hs.const]; exact azF hr
 | global g=>rw[hs.global]; exact azF hr
 | func f=>rw[hs.func]; exact azF hr
 | tmp i =>
  unfold rd at hr;cases hl:e.lookup i with
  | none=>simp[hl]at hr
  | some y =>
   obtain⟨q,u⟩:=y;dsimp only at hr;rw[hl]at hr;dsimp only at hr;split at hr
   ·rename_i hq;obtain rfl:=azF hr;rw[h i _ rfl hl];unfold den;rw[ahI hq hg];rfl
   cases hr
abbrev fA:=Nat×Nat×List Value
def Mem(w:World)(ms:List fA):Prop:=∀m∈ms,m.1<w.heap.size∧w.rangeAt m.1 m.2.1 m.2.2
theorem Mem.ext{w w':World}{ms:List fA}(h:Mem w ms)(hE:Ext w w'):Mem w' ms:=fun m hm =>
 ⟨azY (h m hm).1 hE.size,Vp.pU (h m hm).2 (h m hm).1 hE⟩
def PW(P:Program)(ty:TypeId)(cs:List Value):Option Value:=
 match P.underlying ty,P.info? ty with
 | some t,some i=>match cs.length==i.size with
  | true=>(match t.isRow with
   | true=>some (.agg cs.toArray)
   | false=>(match cs with | [v]=>some v | _=>none))
  | false=>none
 | _,_=>none
def ap5(P:Program)(ty:TypeId):Nat:=match P.info? ty with | some i=>i.size | none=>0
theorem OY{P:Program}{w:World}{ty:TypeId}{cs:List Value}{v:Value}{b o:Nat}(h:PW P ty cs=some v)(hr:w.rangeAt b o cs) :
  (Instr.loadAt ty (.q b o)).run P w = .ok v w:=by
 unfold PW at h;cases hu:P.underlying ty with
 | none=>simp[hu]at h
 | some t =>
  cases hi:P.info? ty with
  | none=>simp[hu,hi]at h
  | some i =>
   simp only[hu,hi]at h;cases hl:cs.length==i.size with
   | false=>simp[hl]at h
   | true =>
    simp only[hl]at h;have hl':cs.length=i.size:=by simpa using hl
    cases ht:t.isRow with
    | true =>
     simp only[ht,azy]at h;subst h;exact run_loadAt_mid w b o ty cs t hr hu ht (by rw[hi]; simp[hl'])
    | false =>
     simp only[ht]at h;cases cs with
     | nil=>simp at h
     | cons c cs =>
      cases cs with
      | cons _ _=>simp at h
      | nil =>
       obtain rfl:=azF h;exact Vp.ZL (by have:=hr 0 c rfl; simpa using this) hu ht
def part(ms:List fA)(k:Nat×Nat)(n:Nat):List Value:=match ms[k.1]? with | some m=>(m.2.2.drop k.2).take n | none=>[]
def adp(ms:List fA)(k:Nat×Nat):Nat×Nat:=match ms[k.1]? with | some m=>(m.1,m.2.1+k.2) | none=>(0,0)
inductive Key where
 | mem (k d:Nat)
 | idx (i len:Nat)
 | re (d:Nat) (v u:Value)
 | cmp (k:BinOp) (t:TypeId) (ox oy:Operand) (x y:Value) (V:Value)
 | new (d:Nat) (A:List Value) (sh:Option Nat) (r:Nat)
 | lds (l:List (Nat×Nat))
 | dead (d:Nat) (v:Value)
 | hand (d:Nat) (kv:List (Nat×Value))
 | slc (l h m c:Nat)
def shV(sh:Option Nat)(r:Nat):Value:=match sh with | none => .q r 0 | some m => .slice (some ⟨r,0,none⟩) m m
inductive Loc where
 | mem (b o:Nat)
 | idx (z:Int) (len:Nat)
 | re (v:Value)
 | cmp (k:BinOp) (t:TypeId) (ox oy:Operand) (x y:Value)
 | new (A:List Value) (v:Value)
 | lds (l:List (Nat×Nat))
 | dead
 | hand (l:List (Option Value))
 | slc (l h m:Int) (c:Nat)
def vH(ms:List fA):Key→Loc
 | .mem k d => .mem (adp ms (k,d)).1 (adp ms (k,d)).2
 | .idx i len => .idx (i:Int) len
 | .re _ v _ => .re v
 | .cmp k t ox oy x y _ => .cmp k t ox oy x y
 | .new _ A sh r => .new A (shV sh r)
 | .lds l => .lds (l.map (adp ms))
 | .dead _ _ => .dead
 | .hand _ kv => .hand (kv.map fun p=>some p.2)
 | .slc l h m c => .slc (l:Int) (h:Int) (m:Int) c
def nD(nw:Prop)(P:Program):List Key→Prop
 | []=>True
 | .mem _ _::r=>nD nw P r
 | .idx i len::r=>i<len∧nD nw P r
 | .re _ v u::r=>v=u∧nD nw P r
 | .new _ _ _ _::r=>nw∧nD nw P r
 | .lds _::r=>nD nw P r
 | .dead _ _::r=>nD nw P r
 | .hand _ _::r=>nw∧nD nw P r
 | .slc l h m c::r=>(l≤h∧h≤m∧m≤c)∧nD nw P r
 | .cmp k t ox oy x y V::r=>(∀w,(do eqGuard k t ox oy x y; binOp k t x y:Sem Value).run P w = .ok V w)∧nD nw P r
abbrev yu (P:Program)(k:List Key):Prop:=nD False P k
theorem yu.app{nw:Prop}{P:Program}:∀{k r:List Key},nD nw P (k++r)→nD nw P k∧nD nw P r
 | [],_,h=>⟨trivial,h⟩
 | .mem _ _::k,r,h=>yu.app (k:=k) h
 | .lds _::k,r,h=>yu.app (k:=k) h
 | .dead _ _::k,r,h=>yu.app (k:=k) h
 | .hand _ _::k,r,h=>⟨⟨h.1,(yu.app (k:=k) h.2).1⟩,(yu.app (k:=k) h.2).2⟩
 | .slc _ _ _ _::k,r,h=>⟨⟨h.1,(yu.app (k:=k) h.2).1⟩,(yu.app (k:=k) h.2).2⟩
 | .idx _ _::k,r,h=>⟨⟨h.1,(yu.app (k:=k) h.2).1⟩,(yu.app (k:=k) h.2).2⟩
 | .re _ _ _::k,r,h=>⟨⟨h.1,(yu.app (k:=k) h.2).1⟩,(yu.app (k:=k) h.2).2⟩
 | .new _ _ _ _::k,r,h=>⟨⟨h.1,(yu.app (k:=k) h.2).1⟩,(yu.app (k:=k) h.2).2⟩
 | .cmp _ _ _ _ _ _ _::k,r,h=>⟨⟨h.1,(yu.app (k:=k) h.2).1⟩,(yu.app (k:=k) h.2).2⟩
theorem Jm{w:World}{ms:List fA}(h:Mem w ms)(k:Nat×Nat)(n:Nat):w.rangeAt (adp ms k).1 (adp ms k).2 (part ms k n):=by
 unfold part adp;cases hm:ms[k.1]? with
 | none=>intro j v hj; simp at hj
 | some m =>
  have:=(h m (List.mem_of_getElem? hm)).2;intro j v hj;simp only at hj ⊢;rw[List.getElem?_take]at hj;split at hj
  ·rw[List.getElem?_drop]at hj;have h1:=this (k.2+j) v hj;rwa [←aBi]at h1
  cases hj
def MO{α:Type}(P:Program)(ms:List fA):Sem α→List (Nat×Nat)→Option (α×List (Nat×Nat))
 | .pure a,[]=>some (a,[])
 | .program k,ks=>MO P ms (k P) ks
 | .mark _ k,ks=>MO P ms k ks
 | .load _ ⟨b,o,none⟩ k,q::ks=>(match part ms q 1 with
  | [v]=>(match MO P ms (k v) ks with | some (x,L)=>some (x,(b,o)::L) | none=>none)
  | _=>none)
 | _,_=>none
theorem FB{α:Type}{P:Program}{ms:List fA}{w:World}(hm:Mem w ms):∀{s:Sem α} {ks L:List (Nat×Nat)} {x:α},MO P ms s ks=some (x,L)→L=ks.map (adp ms)→s.run P w = .ok x w
 | .pure a,ks,L,x,h,hL=>by
  cases ks with
  | nil=>simp only[MO,azy,azA]at h; rw[←h.1]; rfl
  | cons _ _=>simp[MO]at h
 | .program k,ks,L,x,h,hL=>by
  show(k P).run P w=_
  exact FB hm (s:=k P) (by cases ks<;>exact h) hL
 | .mark _ k,ks,L,x,h,hL=>by
  show k.run P w=_
  exact FB hm (s:=k) (by cases ks<;>exact h) hL
 | .load m a k,ks,L,x,h,hL=>by
  obtain⟨b,o,sp⟩:=a
  cases ks with
  | nil=>cases sp<;>simp[MO]at h
  | cons q ks =>
   cases sp with
   | some _=>simp[MO]at h
   | none =>
    unfold MO at h
    split at h
    ·rename_i v hp
     split at h
     ·rename_i x' L' hr
      simp only[azy,azA]at h
      obtain⟨rfl,rfl⟩:=h
      simp only[aAi,az3]at hL
      have h1:=Jm hm q 1 0 v (by rw[hp]; rfl)
      rw[←hL.1]at h1
      simp only[aBk]at h1
      unfold Sem.run
      rw[h1]
      exact FB hm hr hL.2
     ·cases h
    ·cases h
 | .store ..,ks,_,_,h,_=>by cases ks<;>simp[MO]at h
 | .new ..,ks,_,_,h,_=>by cases ks<;>simp[MO]at h
 | .shape ..,ks,_,_,h,_=>by cases ks<;>simp[MO]at h
 | .freeze ..,ks,_,_,h,_=>by cases ks<;>simp[MO]at h
 | .frozen ..,ks,_,_,h,_=>by cases ks<;>simp[MO]at h
 | .getObj ..,ks,_,_,h,_=>by cases ks<;>simp[MO]at h
 | .setObj ..,ks,_,_,h,_=>by cases ks<;>simp[MO]at h
 | .choose ..,ks,_,_,h,_=>by cases ks<;>simp[MO]at h
 | .sys ..,ks,_,_,h,_=>by cases ks<;>simp[MO]at h
 | .halt ..,ks,_,_,h,_=>by cases ks<;>simp[MO]at h
def Em{α:Type}(P:Program)(r:Nat):Sem α→Option (List Value×TypeId×Sem α)
 | .new (.cells A ty fz) k=>(match fz==(0,0)with | true=>some (A.toList,ty,k r) | false=>none)
 | .program k=>Em P r (k P)
 | .mark _ k=>Em P r k
 | _=>none
theorem mV{α:Type}{P:Program}{w:World}{A:List Value}{ty:TypeId}{k:Sem α}:∀{s:Sem α},Em P w.heap.size s=some (A,ty,k)→s.run P w=k.run P (w.alloc (.cells A.toArray ty))
 | .new o k',h=>by
  cases o with
  | cells A' ty' fz =>
   unfold Em at h
   split at h
   ·rename_i hfz
    simp only[azy,azA]at h
    obtain⟨rfl,rfl,rfl⟩:=h
    have:fz=(0,0):=by simpa using hfz
    subst this
    rfl
   ·cases h
  | _=>cases h
 | .program k',h=>mV (s:=k' P) h
 | .mark _ k',h=>mV (s:=k') h
 | .pure a,h=>by cases h
 | .load ..,h=>by cases h
 | .store ..,h=>by cases h
 | .shape ..,h=>by cases h
 | .freeze ..,h=>by cases h
 | .frozen ..,h=>by cases h
 | .getObj ..,h=>by cases h
 | .setObj ..,h=>by cases h
 | .choose ..,h=>by cases h
 | .sys ..,h=>by cases h
 | .halt ..,h=>by cases h
inductive EG where
 | val (v:Value)
 | enter (f:FuncId) (args:Array Value)
 | new
def iR:Option Next→Option EG
 | some (.value v)=>some (.val v)
 | some (.enter f args)=>some (.enter f args)
 | _=>none
def yJ:Op→Bool
 | .select _ _=>true
 | _=>false
def al2:Option Value→Option Value→Option Value
 | some (.bool A),some (.bool B)=>some (.bool (A&&B))
 | _,_=>none
def orV:Option Value→Option Value→Option Value
 | some (.bool A),some (.bool B)=>some (.bool (A||B))
 | _,_=>none
def isF:Operand→Bool
 | .const (.z)=>true
 | _=>false
def isT:Operand→Bool
 | .const (.bool true)=>true
 | _=>false
def pk(e:Env)(p:pW)(c x y:Operand):Option Value:=
 match c with
 | .tmp s=>(match isF y with
  | true=>al2 (rd e p (.tmp s)) (rd e ((s,true)::p) x)
  | false=>(match isT x with
   | true=>orV (rd e p (.tmp s)) (rd e ((s,false)::p) y)
   | false=>none))
 | _=>none
theorem al3{y:Operand}(h:isF y=true):y = .const (.z):=by
 cases y with
 | const v=>cases v with
  | bool b=>cases b with
   | false=>rfl
   | true=>cases h
  | _=>cases h
 | _=>cases h
theorem al4{y:Operand}(h:isT y=true):y = .const (.bool true):=by
 cases y with
 | const v=>cases v with
  | bool b=>cases b with
   | true=>rfl
   | false=>cases h
  | _=>cases h
 | _=>cases h
theorem abE{x y:Option Value}{v:Value}(h:al2 x y=some v):∃A B,x=some (.bool A)∧y=some (.bool B)∧v = .bool (A&&B):=by
 unfold al2 at h;split at h
 ·obtain rfl:=azF h; exact⟨_,_,rfl,rfl,rfl⟩
 cases h
theorem afu{x y:Option Value}{v:Value}(h:orV x y=some v):∃A B,x=some (.bool A)∧y=some (.bool B)∧v = .bool (A||B):=by
 unfold orV at h;split at h
 ·obtain rfl:=azF h; exact⟨_,_,rfl,rfl,rfl⟩
 cases h
theorem abG{P:Program}{o:Oper}{ρ:Operand→Value}{w:World}{c x y:Operand}{A:Bool}{V:Value}(hop:o.op = .pick c x y)(hc:ρ c = .bool A)(hV:(if A=true then ρ x else ρ y)=V):(execOp ρ o).run P w = .ok (.value V) w:=by
 unfold execOp;rw[hop,←hV];simp[hc,asBool,go_sem]
def ixv(P:Program)(t:TypeId)(x ix:Option Value):Option (Nat×Nat×Nat×Nat×Int):=
 match x,ix,P.underlying t with
 | some (.slice (some ⟨b,off,none⟩) len _),some (.int _ z),some (.slice e)=>(match P.info? e with | some i=>some (b,off,len,i.size,z) | none=>none)
 | _,_,_=>none
theorem afv{P:Program}{t:TypeId}{x ix:Option Value}{b off len k:Nat}{z:Int}(h:ixv P t x ix=some (b,off,len,k,z)) :
  ∃c kd e,x=some (.slice (some ⟨b,off,none⟩) len c)∧ix=some (.int kd z)∧P.underlying t=some (.slice e)∧(P.info? e).map (·.size)=some k:=by
 unfold ixv at h;split at h
 ·rename_i b' off' len' c kd z' e hu;split at h
  ·rename_i i hi;simp only[azy,azA]at h;obtain⟨rfl,rfl,rfl,rfl,rfl⟩:=h;exact⟨_,_,_,rfl,rfl,hu,by rw[hi]; rfl⟩
  cases h
 cases h
def tV(a:Option Addr)(l m k:Nat):Option Addr:=if m=l then a else a.map (·.add (l*k))
theorem YL{P:Program}{w:World}{t e:TypeId}{a:Option Addr}{len cap l h m k:Nat}(ht:P.underlying t=some (.slice e)){i:TypeInfo}(hi:P.info? e=some i)(hk:i.size=k){lo hi' mx:Option Value}
  (hlo:lo=none∧l=0∨∃q,lo=some (.int q (l:Int))) (hhi:(hi'=none∧mx=none∧h=len)∨∃q,hi'=some (.int q (h:Int))) (hmx:mx=none∧m=cap∨∃q,mx=some (.int q (m:Int))) (h1:l≤h) (h2:h≤m) (h3:m≤cap) :
  (Instr.sliceAt t (.slice a len cap) lo hi' mx).run P w = .ok (.slice (tV a l m k) (h-l) (m-l)) w:=by
 subst hk;have e1:((l:Int)≤h):=by omega
 have e2:((h:Int)≤m):=by omega
 have e3:((m:Int)≤cap):=by omega
 have e4:((h:Int)≤cap):=by omega
 rcases hlo with ⟨rfl,rfl⟩ | ⟨q1,rfl⟩<;>rcases hhi with ⟨rfl,rfl,rfl⟩ | ⟨q2,rfl⟩<;>rcases hmx with ⟨hm,rfl⟩ | ⟨q3,hm⟩<;>subst_vars<;>first | (cases hm; done) | skip
 all_goals simp_all [Instr.sliceAt,Instr.slice,run_underlying ht,Instr.sliceBounds,run_sliceBound,sizeOf,typeInfo,tV]
def afw(d:Bool)(x:Option Value):Option Value:=match d with | true=>none | false=>x
def bnd(d:Bool)(x:Option Value)(z0:Int):Option Int:=match d with | true=>some z0 | false=>(match x with | some (.int _ z)=>some z | _=>none)
theorem Jo{d:Bool}{x:Option Value}{z0 z:Int}(h:bnd d x z0=some z):(d=true∧z=z0)∨(d=false∧∃q,x=some (.int q z)):=by
 unfold bnd at h;split at h
 ·exact .inl ⟨rfl,(azF h).symm⟩
 split at h
 ·obtain rfl:=azF h; exact .inr ⟨rfl,_,rfl⟩
 cases h
def al5(P:Program)(t:TypeId)(x lo hi mx:Option Value)(dl dh dm:Bool)(l h m:Nat):Option (Value×Loc):=
 match x,P.underlying t with
 | some (.slice a len cap),some (.slice e)=>(match P.info? e,bnd dl lo 0,bnd dh hi len,bnd dm mx cap,!dh||dm with
  | some i,some zl,some zh,some zm,true=>some (.slice (tV a l m i.size) (h-l) (m-l),.slc zl zh zm cap)
  | _,_,_,_,_=>none)
 | _,_=>none
theorem afx{P:Program}{w:World}{t:TypeId}{x:Value}{lo hi mx:Option Value}{dl dh dm:Bool}{l h m c:Nat}{v:Value}(hv:al5 P t (some x) lo hi mx dl dh dm l h m=some (v,.slc (l:Int) (h:Int) (m:Int) c))(hk:l≤h∧h≤m∧m≤c) :
  (Instr.sliceAt t x (afw dl lo) (afw dh hi) (afw dm mx)).run P w = .ok v w:=by
 unfold al5 at hv;split at hv
 ·rename_i a len cap e hx hu;obtain rfl:=azF hx;split at hv
  ·rename_i i zl zh zm hi' hl' hh' hm' hd;simp only[azy,azA,Loc.slc.injEq]at hv;obtain⟨rfl,rfl,rfl,rfl,rfl⟩:=hv;refine YL hu hi' rfl ?_ ?_ ?_ hk.1 hk.2.1 hk.2.2
   ·rcases Jo hl' with ⟨rfl,h⟩ | ⟨rfl,q,rfl⟩
    ·exact .inl ⟨rfl,by omega⟩
    exact .inr ⟨q,rfl⟩
   ·rcases Jo hh' with ⟨rfl,h⟩ | ⟨rfl,q,rfl⟩
    ·obtain rfl:dm=true:=by simpa using hd
     exact .inl ⟨rfl,rfl,by omega⟩
    exact .inr ⟨q,rfl⟩
   rcases Jo hm' with ⟨rfl,h⟩ | ⟨rfl,q,rfl⟩
   ·exact .inl ⟨rfl,by omega⟩
   exact .inr ⟨q,rfl⟩
  cases hv
 cases hv
def ev1(P:Program)(ms:List fA)(e:Env)(p:pW)(ks:List Key)(o:Oper):Option (EG×List Key×List Loc):=
 match o.op with
 | .load ty x=>(match ks,rd e p x with
  | .mem k d::ks',some (.q b off)=>(match PW P ty (part ms (k,d) (ap5 P ty))with | some v=>some (.val v,ks',[.mem b off]) | none=>none)
  | _,_=>none)
 | .pick c x y=>(match pk e p c x y with | some v=>some (.val v,ks,[]) | none=>none)
 | .indexAddr t x ix=>(match ks,ixv P t (rd e p x) (rd e p ix)with
  | .idx i _::ks',some (b,off,len,k,z)=>some (.val (.pointer (some ⟨b,off+i*k,none⟩)),ks',[.idx z len])
  | _,_=>(match !(o.op.operands.all (fun x=>(rd e p x).isSome))with
   | true=>none
   | false=>(match iR (ev0 P (execOp (yc e p) o))with | some r=>some (r,ks,[]) | none=>none)))
 | .binOp k t x y _=>(match ks,rd e p x,rd e p y with
  | .cmp _ _ _ _ _ _ V::ks',some u,some v=>some (.val V,ks',[.cmp k t x y u v])
  | _,some _,some _=>(match iR (ev0 P (execOp (yc e p) o))with | some r=>some (r,ks,[]) | none=>none)
  | _,_,_=>none)
 | op=>(match yJ op || !op.operands.all (fun x=>(rd e p x).isSome)with
  | true=>none
  | false=>(match ks with
   | .new d _ _ r0::ks'=>(match o.dst==some d with
    | true=>(match Em P r0 (execOp (yc e p) o)with
     | some (A,_,k)=>(match iR (ev0 P k)with | some (.val v)=>some (.new,ks',[.new A v]) | _=>none)
     | none=>none)
    | false=>(match iR (ev0 P (execOp (yc e p) o))with | some r=>some (r,ks,[]) | none=>none))
   | .hand d kv::ks'=>(match o.dst==some d&&kv.all (fun q=>o.op.operands.any fun y=>match y with | .tmp s=>s==q.1 | _=>false)with | true=>some (.new,ks',[.hand (kv.map fun q=>rd e p (.tmp q.1))]) | false=>(match iR (ev0 P (execOp (yc e p) o))with | some r=>some (r,ks,[]) | none=>none))
   | .slc l h m _::ks'=>(match op with
    | .slice t x lo hi mx=>(match al5 P t (rd e p x) (lo.bind (rd e p)) (hi.bind (rd e p)) (mx.bind (rd e p)) lo.isNone hi.isNone mx.isNone l h m with | some (v,L)=>some (.val v,ks',[L]) | none=>none)
    | _=>(match iR (ev0 P (execOp (yc e p) o))with | some r=>some (r,ks,[]) | none=>none))
   | .lds l::ks'=>(match MO P ms (execOp (yc e p) o) l with
    | some (.value v,L)=>some (.val v,ks',[.lds L])
    | _=>none)
   | _=>(match iR (ev0 P (execOp (yc e p) o))with | some r=>some (r,ks,[]) | none=>none)))
def ren(d:Option Nat)(r:EG×List Key×List Loc):EG×List Key×List Loc:=
 match r with
 | (.val v,.re d' x u::ks,L)=>(match d==some d' with | true=>(.val u,ks,L++[.re v]) | false=>(.val v,.re d' x u::ks,L))
 | _=>r
def Gives(P:Program)(ρ:Operand→Value)(w:World)(o:Oper):EG→Prop
 | .val v=>(execOp ρ o).run P w = .ok (.value v) w
 | .enter f args=>(execOp ρ o).run P w = .ok (.enter f args) w
 | .new=>True
def Ep(ρ:Operand→Value)(e:Env)(o:Oper):Prop:=∀x∈o.op.operands,Za ρ e x
theorem ap6{ρ:Operand→Value}{e:Env}{p:pW}{c x y:Operand}{v:Value}(hs:Std ρ)(hc:Za ρ e c)(hx:Za ρ e x)(hy:Za ρ e y)(hg:jF e p=true)(h:pk e p c x y=some v) :
  ∃A,ρ c = .bool A∧(if A=true then ρ x else ρ y)=v:=by
 have key:∀(s:Nat) (A:Bool) (b:Bool),rd e p (.tmp s)=some (.bool A)→A=b→jF e ((s,b)::p)=true:=by
  intro s A b h1 h2;rw[tN];refine⟨hg,?_⟩;unfold rd at h1;cases hl:e.lookup s with
  | none=>simp[hl]at h1
  | some z =>
   obtain⟨q,u⟩:=z;dsimp only at h1;rw[hl]at h1;dsimp only at h1;split at h1
   ·obtain rfl:=azF h1;unfold tst;rw[hl];subst h2;cases A<;>rfl
   cases h1
 unfold pk at h;split at h
 ·rename_i s;split at h
  ·rename_i hF;obtain⟨A,B,h1,h2,rfl⟩:=abE h;refine⟨A,gV hs hc hg h1,?_⟩;cases hA:A with
   | true=>rw[azv rfl,gV hs hx (key s A true h1 hA) h2]; rfl
   | false=>rw[azu (by simp),al3 hF,hs.const]; rfl
  split at h
  ·rename_i hT;obtain⟨A,B,h1,h2,rfl⟩:=afu h;refine⟨A,gV hs hc hg h1,?_⟩;cases hA:A with
   | true=>rw[azv rfl,al4 hT,hs.const]; rfl
   | false=>rw[azu (by simp),gV hs hy (key s A false h1 hA) h2]; rfl
  cases h
 cases h
theorem lJ{P:Program}{e:Env}{p:pW}{o:Oper}{r:EG}{ρ:Operand→Value}{w:World}(hs:Std ρ)(hR:Ep ρ e o)(hg:jF e p=true)(h1:yJ o.op=false)(h2:o.op.operands.all (fun x=>(rd e p x).isSome)=true)
  (hv:iR (ev0 P (execOp (yc e p) o))=some r):Gives P ρ w o r:=by
 have hc:execOp ρ o=execOp (yc e p) o:=by
  refine execOp_congr o (fun cs b e1=>by rw[e1]at h1; cases h1) fun x hx=>?_;rw[aBJ]at h2;obtain⟨v,hv⟩:=aAC.1 (h2 x hx);rw[gV hs (hR x hx) hg hv];simp[yc,hv]
 unfold iR at hv;split at hv
 ·rename_i v h1;obtain rfl:=azF hv;show(execOp ρ o).run P w=_;rw[hc]; exact nJ h1
 ·rename_i f args h1;obtain rfl:=azF hv;show(execOp ρ o).run P w=_;rw[hc]; exact nJ h1
 cases hv
theorem Af{k:Key}{ks' kl:List Key}(h:k::ks'=kl++ks'):kl=[k]:=by
 have hlen:kl.length=1:=by have:=azH List.length h; simp at this; omega
 match kl,hlen with
 | [k2],_=>simp at h; rw[h]
theorem afy{nw:Prop}{P:Program}{ms:List fA}{e:Env}{p:pW}{ks ks':List Key}{o:Oper}{r:EG}{L:List Loc}{ρ:Operand→Value}{w:World}
  (h:ev1 P ms e p ks o=some (r,ks',L)) (hs:Std ρ) (hR:Ep ρ e o) (hg:jF e p=true) (hm:Mem w ms) (hL:∃kl,ks=kl++ks'∧L=kl.map (vH ms)∧nD nw P kl):Gives P ρ w o r:=by
 unfold ev1 at h;split at h
 ·rename_i ty x hop;split at h
  ·rename_i k d ks1 b off hr;split at h
   ·rename_i v hv;simp only[azy,azA]at h;obtain⟨rfl,rfl,rfl⟩:=h;obtain⟨kl,e1,e2,_⟩:=hL;obtain rfl:=Af e1;simp only[aAi,aAF,vH,az3,and_true,Loc.mem.injEq]at e2;have hx:ρ x = .q b off:=gV hs (hR x (by simp[hop,Op.operands])) hg hr;have h1:=Jm hm (k,d) (ap5 P ty);rw[←e2.1,←e2.2]at h1;have h2:=OY (w:=w) hv h1;show(execOp ρ o).run P w=_;unfold execOp;simp only[hop,hx,aAw,h2];rfl
   cases h
  cases h
 ·rename_i c x y hop;split at h
  ·rename_i v hv;simp only[azy,azA]at h;obtain⟨rfl,-,-⟩:=h;have hmem:∀z,z=c∨z=x∨z=y→Za ρ e z:=fun z hz=>hR z (by rw[hop]; simp[Op.operands]; exact hz);obtain⟨A,h1,h2⟩:=ap6 hs (hmem c (.inl rfl)) (hmem x (.inr (.inl rfl))) (hmem y (.inr (.inr rfl))) hg hv;exact abG hop h1 h2
  cases h
 ·rename_i t x ix hop;split at h
  ·rename_i i n' ks1 b off len k z hix;simp only[azy,azA]at h;obtain⟨rfl,rfl,rfl⟩:=h;obtain⟨kl,e1,e2,hk⟩:=hL;obtain rfl:=Af e1;simp only[aAi,aAF,vH,az3,and_true,Loc.idx.injEq]at e2;obtain⟨rfl,rfl⟩:=e2;obtain⟨c,kd,e3,hx,hi,hu,hsz⟩:=afv hix;have hmem:∀z,z=x∨z=ix→Za ρ e z:=fun z hz=>hR z (by rw[hop]; simp[Op.operands]; exact hz);exact Vp.abA i hop (gV hs (hmem x (.inl rfl)) hg hx) (gV hs (hmem ix (.inr rfl)) hg hi) hk.1 hu hsz
  split at h
  ·cases h
  rename_i hal;split at h
  ·rename_i r' hv;simp only[azy,azA]at h;obtain⟨rfl,-,-⟩:=h;exact lJ hs hR hg (by rw[hop]; rfl) (by simpa using hal) hv
  cases h
 ·rename_i k t x y yt hop;have hmem:∀z,z=x∨z=y→Za ρ e z:=fun z hz=>hR z (by rw[hop]; simp[Op.operands]; exact hz);split at h
  ·rename_i k' t' ox oy x' y' V ks1 u v hu hv;simp only[azy,azA]at h;obtain⟨rfl,rfl,rfl⟩:=h;obtain⟨kl,e1,e2,hk⟩:=hL;obtain rfl:=Af e1;simp only[aAi,aAF,vH,az3,and_true,Loc.cmp.injEq]at e2;obtain⟨rfl,rfl,rfl,rfl,rfl,rfl⟩:=e2;have h1:=hk.1 w;show(execOp ρ o).run P w=_;unfold execOp;simp only[hop,gV hs (hmem x (.inl rfl)) hg hu,gV hs (hmem y (.inr rfl)) hg hv];simp only[aAw]at h1 ⊢;rw[h1];rfl
  ·rename_i hu hv _;split at h
   ·rename_i r' hr;simp only[azy,azA]at h;obtain⟨rfl,-,-⟩:=h;exact lJ hs hR hg (by rw[hop]; rfl) (by rw[hop]; simp only[Op.operands]; simp[*]) hr
   cases h
  cases h
 split at h
 ·cases h
 rename_i hsel;simp only[aAm]at hsel;split at h
 ·split at h
  ·split at h
   ·split at h
    ·simp only[azy,azA]at h;obtain⟨rfl,-,-⟩:=h;trivial
    cases h
   cases h
  split at h
  ·rename_i r' hv;simp only[azy,azA]at h;obtain⟨rfl,-,-⟩:=h;exact lJ hs hR hg hsel.1 (by simpa using hsel.2) hv
  cases h
 ·split at h
  ·simp only[azy,azA]at h;obtain⟨rfl,-,-⟩:=h;trivial
  split at h
  ·rename_i r' hv;simp only[azy,azA]at h;obtain⟨rfl,-,-⟩:=h;exact lJ hs hR hg hsel.1 (by simpa using hsel.2) hv
  cases h
 ·rename_i l1 h1 m1 c1 ks1;split at h
  ·rename_i t x lo hi mx hop;split at h
   ·rename_i v L1 hsv;simp only[azy,azA]at h;obtain⟨rfl,rfl,rfl⟩:=h;obtain⟨kl,e1,e2,hk⟩:=hL;obtain rfl:=Af e1;simp only[aAi,aAF,vH,az3,and_true]at e2;subst e2;have hop':o.op = .slice t x lo hi mx:=by assumption
    have hall:=hsel.2;rw[hop']at hall;simp only[Op.operands,aAT,Array.all_append,azM,aBJ,Option.mem_toArray]at hall;have hrd:∀y,(y=x∨lo=some y∨hi=some y∨mx=some y)→∃z,rd e p y=some z∧ρ y=z:=fun y hy=>by
     have hs1:(rd e p y).isSome=true:=by
      rcases hy with rfl | h | h | h
      ·exact hall.1.1.1 _ (by simp)
      ·exact hall.1.1.2 _ (by simp[h])
      ·exact hall.1.2 _ (by simp[h])
      exact hall.2 _ (by simp[h])
     obtain⟨z,hz⟩:=aAC.1 hs1;refine⟨z,hz,gV hs (hR y ?_) hg hz⟩;rw[hop'];simp only[Op.operands,Array.mem_append,Option.mem_toArray];rcases hy with rfl | h | h | h
     ·simp
     ·simp[h]
     ·simp[h]
     simp[h]
    obtain⟨xv,hx1,hx2⟩:=hrd x (.inl rfl);have al6:∀q:Option Operand,(∀y,q=some y→∃z,rd e p y=some z∧ρ y=z)→q.map ρ=afw q.isNone (q.bind (rd e p)):=fun q hq=>by
     cases q with
     | none=>rfl
     | some y=>obtain⟨z,h1,h2⟩:=hq y rfl; simp[h1,h2,afw]
    show(execOp ρ o).run P w=_;unfold execOp;rw[hx1]at hsv;simp only[hop',hx2,al6 lo fun y h=>hrd y (.inr (.inl h)),al6 hi fun y h=>hrd y (.inr (.inr (.inl h))),al6 mx fun y h=>hrd y (.inr (.inr (.inr h))),aAw,afx hsv hk.1];rfl
   cases h
  split at h
  ·rename_i r' hv;simp only[azy,azA]at h;obtain⟨rfl,-,-⟩:=h;exact lJ hs hR hg hsel.1 (by simpa using hsel.2) hv
  cases h
 ·rename_i l1 ks1;split at h
  ·rename_i v L1 hev;simp only[azy,azA]at h;obtain⟨rfl,rfl,rfl⟩:=h;obtain⟨kl,e1,e2,_⟩:=hL;obtain rfl:=Af e1;simp only[aAi,aAF,vH,az3,and_true,Loc.lds.injEq]at e2;have hc:execOp ρ o=execOp (yc e p) o:=by
    refine execOp_congr o (fun cs b e1=>by rw[e1]at hsel; cases hsel.1) fun x hx=>?_;have h2:=hsel.2;simp only[aAT,aBJ]at h2;obtain⟨z,hz⟩:=aAC.1 (h2 x hx);rw[gV hs (hR x hx) hg hz];simp[yc,hz]
   show(execOp ρ o).run P w=_;rw[hc];exact FB hm hev e2
  cases h
 split at h
 ·rename_i r' hv;simp only[azy,azA]at h;obtain⟨rfl,-,-⟩:=h;exact lJ hs hR hg hsel.1 (by simpa using hsel.2) hv
 cases h
theorem Xv{P:Program}{ms:List fA}{e:Env}{p:pW}{ks ks':List Key}{o:Oper}{r:EG}{L:List Loc}(h:ev1 P ms e p ks o=some (r,ks',L)):∃kl,ks=kl++ks'∧L.length=kl.length:=by
 have none:∀{r1:EG} {k1:List Key},some (r1,k1,([]:List Loc))=some (r,ks',L)→k1=ks→∃kl,ks=kl++ks'∧L.length=kl.length:=by
  intro r1 k1 h hk;simp only[azy,azA]at h;obtain⟨-,rfl,rfl⟩:=h;exact⟨[],by simp[hk],rfl⟩
 unfold ev1 at h;split at h
 ·split at h
  ·split at h
   ·simp only[azy,azA]at h;obtain⟨-,rfl,rfl⟩:=h;exact⟨[_],rfl,rfl⟩
   cases h
  cases h
 ·split at h
  ·exact none h rfl
  cases h
 ·split at h
  ·simp only[azy,azA]at h;obtain⟨-,rfl,rfl⟩:=h;exact⟨[_],rfl,rfl⟩
  split at h
  ·cases h
  split at h
  ·exact none h rfl
  cases h
 ·split at h
  ·simp only[azy,azA]at h;obtain⟨-,rfl,rfl⟩:=h;exact⟨[_],rfl,rfl⟩
  ·split at h
   ·exact none h rfl
   cases h
  cases h
 split at h
 ·cases h
 split at h
 ·split at h
  ·split at h
   ·split at h
    ·simp only[azy,azA]at h;obtain⟨-,rfl,rfl⟩:=h;exact⟨[_],rfl,rfl⟩
    cases h
   cases h
  split at h
  ·exact none h rfl
  cases h
 ·split at h
  ·simp only[azy,azA]at h;obtain⟨-,rfl,rfl⟩:=h;exact⟨[_],rfl,rfl⟩
  split at h
  ·exact none h rfl
  cases h
 ·split at h
  ·split at h
   ·simp only[azy,azA]at h;obtain⟨-,rfl,rfl⟩:=h;exact⟨[_],rfl,rfl⟩
   cases h
  split at h
  ·exact none h rfl
  cases h
 ·split at h
  ·simp only[azy,azA]at h;obtain⟨-,rfl,rfl⟩:=h;exact⟨[_],rfl,rfl⟩
  cases h
 split at h
 ·exact none h rfl
 cases h
theorem PO{P:Program}{ms:List fA}{e:Env}{p:pW}{ks ks':List Key}{o:Oper}{L:List Loc}(h:ev1 P ms e p ks o=some (.new,ks',L)) :
  (∃d A0 sh r0 A v ty k,ks = .new d A0 sh r0::ks'∧o.dst=some d∧L=[.new A v]∧Em P r0 (execOp (yc e p) o)=some (A,ty,k)∧ev0 P k=some (.value v)∧yJ o.op=false∧o.op.operands.all (fun x=>(rd e p x).isSome)=true)∨∃d kv,ks = .hand d kv::ks'∧o.dst=some d∧L=[.hand (kv.map fun q=>rd e p (.tmp q.1))]∧∀q∈kv,.tmp q.1∈o.op.operands:=by
 have no:∀{x:Option Next} {k1:List Key},(match iR x with | some r=>some (r,k1,([]:List Loc)) | none=>none)=some (.new,ks',L)→False:=by
  intro x k1 h;split at h
  ·rename_i r hr;simp only[azy,azA]at h;obtain⟨rfl,-,-⟩:=h;unfold iR at hr;split at hr<;>cases hr
  cases h
 unfold ev1 at h;split at h
 ·split at h
  ·split at h<;>cases h
  cases h
 ·split at h<;>cases h
 ·split at h
  ·cases h
  split at h
  ·cases h
  exact(no h).elim
 ·split at h
  ·cases h
  ·exact(no h).elim
  cases h
 split at h
 ·cases h
 rename_i hsel;simp only[aAm]at hsel;split at h
 ·rename_i d A0 sh r0 ks1;split at h
  ·rename_i hdd;split at h
   ·rename_i A ty k hev;split at h
    ·rename_i v hv;simp only[azy,azA]at h;obtain⟨-,rfl,rfl⟩:=h;refine .inl ⟨d,A0,sh,r0,A,v,ty,k,rfl,by simpa using hdd,rfl,hev,?_,hsel.1,by simpa using hsel.2⟩;unfold iR at hv;split at hv
     ·rename_i h2; obtain h3:=azF hv; rw[h2]; simp only[EG.val.injEq]at h3; rw[h3]
     ·cases hv
     cases hv
    cases h
   cases h
  exact(no h).elim
 ·rename_i d kv ks1;split at h
  ·rename_i hdd;simp only[azy,azA]at h;obtain⟨-,rfl,rfl⟩:=h;simp only[azM,azI,az5]at hdd;refine .inr ⟨d,kv,rfl,hdd.1,rfl,fun q hq=>?_⟩;have h3:=hdd.2 q hq;rw[Array.any_eq_true']at h3;obtain⟨y,hy,hs⟩:=h3;cases y<;>simp at hs;rw[←hs]; exact hy
  exact(no h).elim
 ·split at h
  ·split at h<;>cases h
  exact(no h).elim
 ·split at h<;>cases h
 exact(no h).elim
def evR(P:Program)(ms:List fA)(e:Env)(p:pW)(ks:List Key)(o:Oper):Option (EG×List Key×List Loc):=
 match ev1 P ms e p ks o with
 | some r=>some (ren o.dst r)
 | none=>none
theorem xP(d:Option Nat)(r:EG×List Key×List Loc):ren d r=r∨∃v d' x u ks L,r=(.val v,.re d' x u::ks,L)∧ren d r=(.val u,ks,L++[.re v]):=by
 unfold ren;split
 ·rename_i v d' x u ks L;split
  ·exact .inr ⟨v,d',x,u,ks,L,rfl,rfl⟩
  exact .inl rfl
 exact .inl rfl
theorem ahJ{P:Program}{ms:List fA}{e:Env}{p:pW}{ks ks':List Key}{o:Oper}{L:List Loc}(h:evR P ms e p ks o=some (.new,ks',L)):ev1 P ms e p ks o=some (.new,ks',L):=by
 unfold evR at h;cases h1:ev1 P ms e p ks o with
 | none=>simp[h1]at h
 | some r1 =>
  simp only[h1,azy]at h;rcases xP o.dst r1 with h2 | ⟨v,d',x,u,ks2,L2,h2,h3⟩
  ·rw[h2]at h; rw[h]
  rw[h3]at h; simp at h
theorem ahK{nw:Prop}{P:Program}{ms:List fA}{e:Env}{p:pW}{ks ks':List Key}{o:Oper}{r:EG}{L L':List Loc}(h:evR P ms e p ks o=some (r,ks',L))(hL:L++L'=ks.map (vH ms))(hk:nD nw P ks) :
  (∃kl,ks=kl++ks'∧L=kl.map (vH ms)∧nD nw P kl)∧L'=ks'.map (vH ms)∧nD nw P ks':=by
 have key:∃kl,ks=kl++ks'∧L.length=kl.length:=by
  unfold evR at h;cases h1:ev1 P ms e p ks o with
  | none=>simp[h1]at h
  | some r1 =>
   simp only[h1,azy]at h;obtain⟨r1,k1,L1⟩:=r1;obtain⟨kl,hkl,hl⟩:=Xv h1;rcases xP o.dst (r1,k1,L1)with h2 | ⟨v,d',x,u,ks2,L2,h2,h3⟩
   ·rw[h2]at h;simp only[azA]at h;obtain⟨-,rfl,rfl⟩:=h;exact⟨kl,hkl,hl⟩
   rw[h3]at h;simp only[azA]at h h2;obtain⟨-,rfl,rfl⟩:=h;obtain⟨rfl,rfl,rfl⟩:=h2;exact⟨kl++[.re d' x u],by simp[hkl],by simp[hl]⟩
 obtain⟨kl,rfl,hl⟩:=key;rw[aAo]at hL;obtain⟨h1,h2⟩:=List.append_inj hL (by simpa using hl);exact⟨⟨kl,rfl,h1,(yu.app hk).1⟩,h2,(yu.app hk).2⟩
theorem al7{nw:Prop}{P:Program}{ms:List fA}{e:Env}{p:pW}{ks ks':List Key}{o:Oper}{r:EG}{L:List Loc}{ρ:Operand→Value}{w:World}
  (h:evR P ms e p ks o=some (r,ks',L)) (hs:Std ρ) (hR:Ep ρ e o) (hg:jF e p=true) (hm:Mem w ms) (hL:∃kl,ks=kl++ks'∧L=kl.map (vH ms)∧nD nw P kl):Gives P ρ w o r:=by
 unfold evR at h;cases h1:ev1 P ms e p ks o with
 | none=>simp[h1]at h
 | some r1 =>
  simp only[h1,azy]at h;obtain⟨r1,k1,L1⟩:=r1;rcases xP o.dst (r1,k1,L1)with h2 | ⟨v,d',x,u,ks2,L2,h2,h3⟩
  ·rw[h2]at h;simp only[azA]at h;obtain⟨rfl,rfl,rfl⟩:=h;exact afy h1 hs hR hg hm hL
  rw[h3]at h;simp only[azA]at h h2;obtain⟨rfl,rfl,rfl⟩:=h;obtain⟨rfl,rfl,rfl⟩:=h2;obtain⟨kl,e1,e2,hk⟩:=hL;obtain⟨kl1,e3,e4⟩:=Xv h1;have e5:kl=kl1++[.re d' x u]:=by
   have:kl++ks2=(kl1++[.re d' x u])++ks2:=by rw[←e1,e3]; simp
   exact List.append_cancel_right this
  subst e5;rw[aAo]at e2;obtain⟨f1,f2⟩:=List.append_inj e2 (by simpa using e4);simp only[aAi,aAF,vH,az3,and_true,Loc.re.injEq]at f2;obtain⟨g1,g2⟩:=yu.app hk;have hv:v=u:=f2.trans g2.1;rw[←hv];exact afy h1 hs hR hg hm ⟨kl1,e3,f1,g1⟩
def hd1(e:Env):pW→Bool
 | []=>true
 | c::_=>tst e c.1 c.2
theorem ahL{e:Env}{p:pW}(h:hd1 e p=false):jF e p=false:=by
 cases p with
 | nil=>cases h
 | cons c r =>
  cases hg:jF e (c::r)with
  | false=>rfl
  | true =>
   have h2:=((tN e c r).1 hg).2;have h:tst e c.1 c.2=false:=h;rw[h]at h2; cases h2
def Y5(P:Program)(ms:List fA)(e:Env)(p:pW)(ks:List Key)(o:Oper):Option (EG×List Key×List Loc):=
 match ks with
 | .dead d v::r=>(match o.dst==some d with
  | true=>(match hd1 e p with | false=>some (.val v,r,[.dead]) | true=>none)
  | false=>evR P ms e p ks o)
 | _=>evR P ms e p ks o
theorem xO{P:Program}{ms:List fA}{e:Env}{p:pW}{ks ks':List Key}{o:Oper}{r:EG}{L:List Loc}(h:Y5 P ms e p ks o=some (r,ks',L)) :
  evR P ms e p ks o=some (r,ks',L)∨∃d v,ks = .dead d v::ks'∧r = .val v∧L=[.dead]∧jF e p=false:=by
 unfold Y5 at h;split at h
 ·rename_i d v r';split at h
  ·split at h
   ·rename_i hg;simp only[azy,azA]at h;obtain⟨rfl,rfl,rfl⟩:=h;exact .inr ⟨d,v,rfl,rfl,rfl,ahL hg⟩
   cases h
  exact .inl h
 exact .inl h
theorem PS{P:Program}{ms:List fA}{e:Env}{p:pW}{ks ks':List Key}{o:Oper}{L:List Loc}(h:Y5 P ms e p ks o=some (.new,ks',L)):ev1 P ms e p ks o=some (.new,ks',L):=by
 rcases xO h with h | ⟨_,_,_,h,_⟩
 ·exact ahJ h
 cases h
theorem uT{nw:Prop}{P:Program}{ms:List fA}{e:Env}{p:pW}{ks ks':List Key}{o:Oper}{r:EG}{L L':List Loc}(h:Y5 P ms e p ks o=some (r,ks',L))(hL:L++L'=ks.map (vH ms))(hk:nD nw P ks) :
  (∃kl,ks=kl++ks'∧L=kl.map (vH ms)∧nD nw P kl)∧L'=ks'.map (vH ms)∧nD nw P ks':=by
 rcases xO h with h | ⟨d,v,rfl,rfl,rfl,_⟩
 ·exact ahK h hL hk
 simp only[aAP,aAv,aAi,az3]at hL;exact⟨⟨[.dead d v],rfl,rfl,trivial⟩,hL.2,hk⟩
theorem Dw{nw:Prop}{P:Program}{ms:List fA}{e:Env}{p:pW}{ks ks':List Key}{o:Oper}{r:EG}{L:List Loc}{ρ:Operand→Value}{w:World}
  (h:Y5 P ms e p ks o=some (r,ks',L)) (hs:Std ρ) (hR:Ep ρ e o) (hg:jF e p=true) (hm:Mem w ms) (hL:∃kl,ks=kl++ks'∧L=kl.map (vH ms)∧nD nw P kl):Gives P ρ w o r:=by
 rcases xO h with h | ⟨_,_,_,_,_,h⟩
 ·exact al7 h hs hR hg hm hL
 rw[hg]at h; cases h
def pathOf(ops:Array Oper)(e:Env)(o:Oper):Option pW:=
 match o.guard with
 | none=>some []
 | some (g,b)=>match (ops[g]?).bind (·.dst)with
  | some s=>(match e.lookup s with | some (q,.bool _)=>some ((s,b)::q) | _=>none)
  | none=>none
def put(e:Env)(d:Option Nat)(p:pW)(v:Value):Env:=match d with | some d=>(d,p,v)::e | none=>e
def wW(n:Nat)(e:Env)(d:Option Nat)(p:pW):Bool:=
 match d with
 | some d=>decide (d<n)&&(p.all (fun c=>c.1 != d)&&e.all (fun x=>x.2.1.all (fun c=>c.1 != d)))
 | none=>true
abbrev Cl:=FuncId×Array Value×Bool×Value
abbrev Zb:=Cl×Option Nat×List Nat
abbrev T3:=Bool×Value×Bool
abbrev Out:=Env×List Loc×List Zb×List T3
def waits(ops:Array Oper)(o:Oper):List Nat:=o.after.toList.filterMap fun g=>match Region.binds .any g with | true=>(ops[g.on]?).bind (·.dst) | false=>none
def exec(P:Program)(ms:List fA)(ops:Array Oper)(n:Nat):List Oper→Env→List Key→List Value→Option Out
 | [],e,ks,cs=>(match ks,cs with | [],[]=>some (e,[],[],[]) | _,_=>none)
 | o::os,e,ks,cs =>
  match pathOf ops e o with
  | none=>none
  | some p =>
   match wW n e o.dst p,Y5 P ms e p ks o with
   | true,some (.val v,ks',L) =>
    (match exec P ms ops n os (put e o.dst p v) ks' cs with | some (e',L',C,T)=>some (e',L++L',C,(jF e p,v,true)::T) | none=>none)
   | true,some (.new,ks',L)=>(match cs with
    | v::cs'=>(match exec P ms ops n os (put e o.dst p v) ks' cs' with | some (e',L',C,T)=>some (e',L++L',C,(jF e p,v,false)::T) | none=>none)
    | []=>none)
   | true,some (.enter f args,ks',L)=>(match cs with
    | v::cs'=>(match exec P ms ops n os (put e o.dst p v) ks' cs' with | some (e',L',C,T)=>some (e',L++L',((f,args,jF e p,v),o.dst,waits ops o)::C,(jF e p,v,false)::T) | none=>none)
    | []=>none)
   | _,_=>none
def Obl(P:Program)(w:World):List Cl→Prop
 | []=>True
 | c::cs=>(∀w',Ext w w'→c.2.2.1=true→Calls P c.1 c.2.1 w' (fun e w''=>e = .returned c.2.2.2∧Ext w' w''))∧Obl P w cs
theorem Obl.ext{P:Program}{w w':World}:∀{C:List Cl},Obl P w C→Ext w w'→Obl P w' C
 | [],_,_=>trivial
 | _::_,h,hE=>⟨fun w'' h2=>h.1 w'' (Ext.trans' hE h2),Obl.ext h.2 hE⟩
theorem ahM{e:Env}{d s:Nat}{p:pW}{v:Value}{b:Bool}(h:s≠d):tst (put e (some d) p v) s b=tst e s b:=by
 unfold tst put;rw[aAk];have:(s==d)=false:=by simpa using h
 rw[this]
theorem MP{e e':Env}:∀{q:pW},(∀c∈q,tst e c.1 c.2=tst e' c.1 c.2)→jF e q=jF e' q
 | [],_=>rfl
 | [c],h=>by simp only[jF]; exact h c (by simp)
 | c::c2::r,h=>by
  simp only[jF]
  rw[MP (q:=c2::r) (fun x hx=>h x (by simp at hx ⊢; exact .inr hx)),h c (by simp)]
theorem FC{e:Env}{d:Nat}{p q:pW}{v:Value}(h:q.all (fun c=>c.1 != d)=true):jF (put e (some d) p v) q=jF e q:=
 MP fun c hc=>ahM (by rw[az5]at h; simpa using h c hc)
theorem Ku{e:Env}{i:Nat}{x:pW×Value}(h:e.lookup i=some x):(i,x)∈e:=by
 induction e with
 | nil=>simp at h
 | cons y e ih =>
  rw[aAk]at h;by_cases hi:i=y.1
  ·subst hi;simp only[aBd,azy]at h;subst h; simp
  have e1:(i==y.1)=false:=by simpa using hi
  rw[e1]at h;exact aAI _ (ih h)
theorem Jp{n d:Nat}{e:Env}{p:pW}(h:wW n e (some d) p=true):d<n∧p.all (fun c=>c.1 != d)=true∧∀i x,e.lookup i=some x→x.1.all (fun c=>c.1 != d)=true:=by
 simp only[wW,azM,azK]at h;refine⟨h.1,h.2.1,fun i x hx=>?_⟩;have h2:=h.2.2;rw[az5]at h2;exact h2 _ (Ku hx)
theorem Dv{a:Act}{n:Nat}{e:Env}{d:Option Nat}{p:pW}{v u:Value}(h:Holds a.eval e)(hsz:a.tmps.size=n)(hp:wW n e d p=true)(hu:u=den e (p,v)):Holds (a.put d u).eval (put e d p v):=by
 cases d with
 | none=>exact h
 | some d =>
  obtain⟨hd,h1,h2⟩:=Jp hp;intro i x hx;by_cases hi:i=d
  ·subst hi;simp only[put,aAk,aBd,azy]at hx;subst hx;unfold den;rw[FC h1];have hlt:i<a.tmps.size:=by omega
   have:(a.put (some i) u).eval (.tmp i)=u:=by simp[Act.eval,Act.put,hlt]
   rw[this,hu]; rfl
  have e1:(i==d)=false:=by simpa using hi
  simp only[put,aAk,e1]at hx;rw[mJ (qj a (some d) u i (fun e=>hi (azF e).symm)),h i x hx];unfold den;rw[FC (h2 i x hx)]
theorem Uf{P:Program}{o:Oper}{a:Act}{w:World}{v:Value}{next:Act→World→Prop}{Q:Exit→Act→World→Prop}(h:(execOp a.eval o).run P w = .ok (.value v) w)(hn:next (a.put o.dst v) w):o.wp P a w next Q:=by
 unfold Oper.wp; rw[h]; exact hn
theorem rE{ops:Array Oper}{e:Env}{o:Oper}{p:pW}{a:Act}(hp:pathOf ops e o=some p)(h:∀x,(∃g,o.guard=some g∧(ops[g.1]?).bind (·.dst)=some x)→Za a.eval e (.tmp x)):Region.wanted o (yielded ops a.tmps)=true↔jF e p=true:=by
 unfold pathOf at hp;cases hg:o.guard with
 | none =>
  rw[hg]at hp;obtain rfl:=azF hp;simp[Region.wanted,hg,jF]
 | some gb =>
  obtain⟨g,b⟩:=gb;rw[hg]at hp;simp only at hp;cases hs:(ops[g]?).bind (·.dst)with
  | none=>simp[hs]at hp
  | some s =>
   simp only[hs]at hp;have hw:=yY (ops:=ops) (a:=a) hg;rw[hs]at hw;rw[hw];have hR:=h s ⟨_,hg,hs⟩;cases hl:e.lookup s with
   | none=>simp[hl]at hp
   | some x =>
    obtain⟨q,u⟩:=x;have hv:=hR s _ rfl hl;cases u<;>simp only[hl]at hp<;>try (cases hp)
    rename_i t;show a.eval (.tmp s)=_↔_;rw[hv,tN];unfold den tst;rw[hl];simp only;cases jF e q<;>cases b<;>cases t<;>simp[undef]
theorem gZ{ρ:Operand→Value}{e:Env}(h:Holds ρ e)(o:Oper):Ep ρ e o:=fun _ _ i y _ hl=>h i y hl
theorem PU{P:Program}{ms:List fA}{ops:Array Oper}{n:Nat}{Q:Exit→Act→World→Prop}{rest:List Oper}:∀(os:List Oper) {e e':Env} {ks:List Key} {L:List Loc} {C:List Zb} {T:List T3} {cs:List Value} {a:Act} {w:World},
  exec P ms ops n os e ks cs=some (e',L,C,T)→a.tmps.size=n→Holds a.eval e→Mem w ms→L=ks.map (vH ms)→yu P ks→Obl P w (C.map (·.1)) →
  (∀a' w',Ext w w'→(C=[]→w'=w)→a'.tmps.size=n→a'.defers=a.defers→Holds a'.eval e'→wpList P ops Q rest a' w')→wpList P ops Q (os++rest) a w
 | [],e,e',ks,L,C,T,cs,a,w,hx,hsz,hh,hm,hL,hk0,hO,hn=>by
  unfold exec at hx
  split at hx
  ·simp only[azy,azA]at hx
   obtain⟨rfl,-,-,-⟩:=hx
   exact hn a w Ext.rfl' (fun _=>rfl) hsz rfl hh
  ·cases hx
 | o::os,e,e',ks,L,C,T,cs,a,w,hx,hsz,hh,hm,hL,hk0,hO,hn=>by
  unfold exec at hx
  cases hp:pathOf ops e o with
  | none=>simp[hp]at hx
  | some p =>
   simp only[hp]at hx
   have hw:=rE (a:=a) hp (fun x _ i y _ hl=>hh i y hl)
   cases hpo:wW n e o.dst p with
   | false=>simp[hpo]at hx
   | true =>
    cases h1:Y5 P ms e p ks o with
    | none=>simp[hpo,h1]at hx
    | some r =>
     obtain⟨r,ks',L1⟩:=r
     have go:∀v (C':List Zb) L' T' cs',exec P ms ops n os (put e o.dst p v) ks' cs'=some (e',L',C',T')→L1++L'=ks.map (vH ms)→Obl P w (C'.map (·.1))→(C'=[]→C=[]∨jF e p=true→True) →
       ∀u w1,u=den e (p,v)→Ext w w1→(C'=[]→w1=w∨C≠[])→(C=[]→C'=[])→wpList P ops Q (os++rest) (a.put o.dst u) w1:=by
      intro v C' L' T' cs' hx' hL' hO' _ u w1 hu hE hw1 hCC
      obtain⟨_,hL2,hk2⟩:=uT h1 hL' hk0
      refine PU os hx' (by rw[sD]; exact hsz) (Dv hh hsz hpo hu) (hm.ext hE) hL2 hk2 (hO'.ext hE) fun a' w' hE' hC' hsz' hd' hh'=>?_
      refine hn a' w' (Ext.trans' hE hE') (fun hc=>?_) hsz' (by rw[hd',put_defers]) hh'
      rw[hC' (hCC hc)]
      rcases hw1 (hCC hc)with h | h
      ·exact h
      ·exact absurd hc h
     cases r with
     | val v =>
      simp only[hpo,h1]at hx
      cases hx':exec P ms ops n os (put e o.dst p v) ks' cs with
      | none=>simp[hx']at hx
      | some z =>
       obtain⟨e1,L',C',T'⟩:=z
       simp only[hx',azy,azA]at hx
       obtain⟨rfl,rfl,rfl,-⟩:=hx
       show wpList P ops Q (o::(os++rest)) a w
       unfold wpList
       by_cases hG:jF e p=true
       ·rw[azv (hw.2 hG)]
        left
        refine Uf (Dw h1 (Std.act a) (gZ hh o) hG hm (uT h1 hL hk0).1) ?_
        exact go v _ _ _ _ hx' hL hO (fun _ _=>trivial) v w (by simp[den,hG]) Ext.rfl' (fun _ => .inl rfl) (fun h=>h)
       ·rw[azu (fun h=>hG (hw.1 h))]
        exact go v _ _ _ _ hx' hL hO (fun _ _=>trivial) undef w (by simp[den,hG]) Ext.rfl' (fun _ => .inl rfl) (fun h=>h)
     | new =>
      rcases PO (PS h1)with ⟨_,_,_,_,_,_,_,_,rfl,_⟩ | ⟨_,_,rfl,_⟩<;>exact hk0.1.elim
     | enter f args =>
      simp only[hpo,h1]at hx
      cases cs with
      | nil=>simp at hx
      | cons v cs' =>
       simp only at hx
       cases hx':exec P ms ops n os (put e o.dst p v) ks' cs' with
       | none=>simp[hx']at hx
       | some z =>
        obtain⟨e1,L',C',T'⟩:=z
        simp only[hx',azy,azA]at hx
        obtain⟨rfl,rfl,rfl,-⟩:=hx
        show wpList P ops Q (o::(os++rest)) a w
        unfold wpList
        by_cases hG:jF e p=true
        ·rw[azv (hw.2 hG)]
         left
         have h2:=Dw h1 (Std.act a) (gZ hh o) hG hm (uT h1 hL hk0).1
         unfold Oper.wp
         rw[h2]
         simp only[Oper.upon]
         refine(hO.1 w Ext.rfl' hG).mono fun e2 w2 hk=>?_
         obtain⟨rfl,hE⟩:=hk
         exact go v _ _ _ _ hx' hL hO.2 (fun _ _=>trivial) v w2 (by simp[den,hG]) hE (fun _ => .inr (by simp)) (fun h=>by cases h)
        ·rw[azu (fun h=>hG (hw.1 h))]
         exact go v _ _ _ _ hx' hL hO.2 (fun _ _=>trivial) undef w (by simp[den,hG]) Ext.rfl' (fun _ => .inl rfl) (fun h=>by cases h)
def Zc(dl:List (Option Nat))(i:Nat)(af:List Edge)(s:Nat):Bool:=
 dl.zipIdx.all fun x=>x.1 != some s||(decide (x.2<i)&&af.any (fun g=>g.on==x.2&&Region.binds .any g))
def slotsOf(ops:Array Oper)(o:Oper):List Nat:=
 o.op.operands.toList.filterMap (fun x=>match x with | .tmp s=>some s | _=>none) ++
  (match o.guard with | some (g,_)=>(match (ops[g]?).bind (·.dst)with | some s=>[s] | none=>[]) | none=>[])
def rG(ops:Array Oper)(hd:List Oper):Bool:=
 hd.zipIdx.all fun x=>x.1.dst.isSome&&(slotsOf ops x.1).all (Zc (hd.map (·.dst)) x.2 x.1.after.toList)
theorem xQ{α:Type}{l:List α}{i:Nat}{x:α}(h:l[i]?=some x):(x,i)∈l.zipIdx:=by
 rw[List.mem_zipIdx_iff_getElem?]; exact h
theorem xR{dl:List (Option Nat)}{i:Nat}{af:List Edge}{s:Nat}(h:Zc dl i af s=true){j:Nat}(hj:dl[j]?=some (some s)):j<i∧∃g∈af,g.on=j∧Region.binds .any g=true:=by
 unfold Zc at h;rw[az5]at h;have:=h _ (xQ hj);simp only[bne_self_eq_false,Bool.false_or,azM,azK,List.any_eq_true,azI]at this;obtain⟨h1,g,h2,h3,h4⟩:=this;exact⟨h1,g,h2,h3,h4⟩
def Xz(x:T3):Fact:=Rel.is (_root_.cond x.1 x.2.1 undef)
def Trk(hd:List Oper)(Ta:List T3)(e0:Env)(i:Nat)(e:Env):Prop:=∀s x,e.lookup s=some x →
 (∃(j:Nat) (o:Oper),j<i∧hd[j]?=some o∧o.dst=some s∧∃k,Ta[j]?=some (jF e x.1,x.2,k))∨((∀(j:Nat) (o:Oper),j<i→hd[j]?=some o→o.dst≠some s)∧e0.lookup s=some x)
theorem Trk.put{hd:List Oper}{Ta:List T3}{e0 e:Env}{i n:Nat}{p:pW}{v:Value}{o:Oper}{d:Nat}{kk:Bool}(h:Trk hd Ta e0 i e)(ho:hd[i]?=some o)(hd':o.dst=some d)(hT:Ta[i]?=some (jF e p,v,kk))(hp:wW n e (some d) p=true) :
  Trk hd Ta e0 (i+1) (put e (some d) p v):=by
 obtain⟨_,h1,h2⟩:=Jp hp;intro s x hx;by_cases hs:s=d
 ·subst hs;simp only[Sx.put,aAk,aBd,azy]at hx;subst hx;exact .inl ⟨i,o,by omega,ho,hd',kk,by rw[hT]; show some (jF e p,v,kk)=some (jF (Sx.put e (some s) p v) p,v,kk); rw[FC h1]⟩
 have e1:(s==d)=false:=by simpa using hs
 simp only[Sx.put,aAk,e1]at hx;rcases h s x hx with ⟨j,oj,hj,hoj,hdj,k,hTj⟩ | ⟨hno,h0⟩
 ·exact .inl ⟨j,oj,by omega,hoj,hdj,k,by rw[hTj]; show some (jF e x.1,x.2,k)=some (jF (Sx.put e (some d) p v) x.1,x.2,k); rw[FC (h2 s x hx)]⟩
 refine .inr ⟨fun j oj hj hoj hdj=>?_,h0⟩;rcases aAl j i with hlt | hge
 ·exact hno j oj hlt hoj hdj
 obtain rfl:j=i:=by omega
 rw[ho]at hoj;obtain rfl:=azF hoj;rw[hd']at hdj;exact hs (azF hdj).symm
section
variable{P:Program}{ms:List fA}{ops:Array Oper}{n:Nat}{hd:List Oper}{Ta:List T3}{e0:Env}{Cb:Operand→Value}{w0:World}
theorem al8{i:Nat}{e:Env}{o:Oper}{ρ:Operand→Value}{w:World}(ht:Trk hd Ta e0 i e)(ho:hd[i]?=some o)(hops:∀(j:Nat) o,hd[j]?=some o→ops[j]?=some o)(Dx:rG ops hd=true)(h0:Holds Cb e0)(he0:∀s x,e0.lookup s=some x→x.1=[])
  (hOut:Rel.Out hd ρ Cb) (hd':Rel.Qr ops (Ta.map Xz) ρ w o.after.toList) {s:Nat} (hs:s∈slotsOf ops o):Za ρ e (.tmp s):=by
 have key:∀es:List Edge,Rel.Qr ops (Ta.map Xz) ρ w es→∀g∈es,Region.binds .any g=true→(Ta.map Xz).getD g.on top (Rel.valOf ρ ((ops[g.on]?).bind (·.dst))) w:=by
  intro es;induction es with
  | nil=>intro _ g hg; cases hg
  | cons x es ih =>
   intro h g hg hb;rcases azG.1 hg with rfl | hg
   ·exact h.1 hb
   exact ih h.2 g hg hb
 intro s' x hss hl;obtain rfl:=Operand.tmp.inj hss;unfold rG at Dx;rw[az5]at Dx;have h1:=Dx _ (xQ ho);simp only[azM,az5]at h1;have h2:=h1.2 s hs;rcases ht s x hl with ⟨j,oj,hj,hoj,hdj,k,hTj⟩ | ⟨hno,h3⟩
 ·have hdl:(hd.map (·.dst))[j]?=some (some s):=by rw[List.getElem?_map,hoj,aAj,hdj]
  obtain⟨_,g,hg,rfl,hb⟩:=xR h2 hdl;have h3:=key _ hd' g hg hb;rw[hops _ _ hoj]at h3;simp only[aBq,hdj]at h3;have e1:(Ta.map Xz).getD g.on top=Xz (jF e x.1,x.2,k):=by simp[List.getD,List.getElem?_map,hTj]
  rw[e1]at h3;exact h3
 have hall:hd.all (fun o => !(o.dst==some s))=true:=by
  rw[az5];intro oj hoj;obtain⟨j,hj⟩:=List.getElem?_of_mem hoj;simp only[aA6,azW];intro hdj;have hdl:(hd.map (·.dst))[j]?=some (some s):=by rw[List.getElem?_map,hj,aAj,hdj]
  obtain⟨hlt,_⟩:=xR h2 hdl;exact hno j oj hlt hj hdj
 rw[hOut s hall,h0 s x h3];unfold den;rw[he0 s x h3];rfl
theorem wZ{o:Oper}{v:Value}(h:o.dst.isSome=true):kept o v=v:=by
 unfold kept;cases hd:o.dst with
 | none=>rw[hd]at h; cases h
 | some _=>rfl
theorem Jq(hops:∀(j:Nat) o,hd[j]?=some o→ops[j]?=some o)(Dx:rG ops hd=true)(h0:Holds Cb e0)(he0:∀s x,e0.lookup s=some x→x.1=[])(hm:Mem w0 ms) :
  ∀(os:List Oper) (i:Nat) {e e':Env} {ks:List Key} {L:List Loc} {C:List Zb} {T:List T3} {cs:List Value},hd.drop i=os→Ta.drop i=T→Trk hd Ta e0 i e→exec P ms ops n os e ks cs=some (e',L,C,T)→L=ks.map (vH ms)→yu P ks→Obl P w0 (C.map (·.1)) →
  Rel.rJ P ops hd (Ta.map Xz) Ext (fun w=>Ext w0 w) Cb os (T.map Xz)
 | [],i,e,e',ks,L,C,T,cs,_,_,_,_,_,_,_=>by cases T<;>trivial
 | o::os,i,e,e',ks,L,C,T,cs,hos,hTa,ht,hx,hL,hk0,hO=>by
  have ho:hd[i]?=some o:=by have:=azH List.head? hos; simpa[List.head?_drop]using this
  have ahN:hd.drop (i+1)=os:=by have:=azH List.tail hos; simpa[List.tail_drop]using this
  have hdst:o.dst.isSome=true:=by
   unfold rG at Dx
   rw[az5]at Dx
   have h1:=Dx _ (xQ ho)
   simp only[azM]at h1
   exact h1.1
  obtain⟨d,hd1⟩:=aAC.1 hdst
  unfold exec at hx
  cases hp:pathOf ops e o with
  | none=>simp[hp]at hx
  | some p =>
   simp only[hp]at hx
   cases hpo:wW n e o.dst p with
   | false=>simp[hpo]at hx
   | true =>
    cases h1:Y5 P ms e p ks o with
    | none=>simp[hpo,h1]at hx
    | some r =>
     obtain⟨r,ks',L1⟩:=r
     have obl:∀v kk,(∀ρ w,Std ρ→Ep ρ e o→jF e p=true→Ext w0 w→(∃kl,ks=kl++ks'∧L1=kl.map (vH ms)∧yu P kl)→Does P o ρ w (fun u w'=>Ext w w'∧Xz (jF e p,v,kk) (kept o u) w'))→(∃kl,ks=kl++ks'∧L1=kl.map (vH ms)∧yu P kl) →
       Rel.su P ops hd (Ta.map Xz) Ext (fun w=>Ext w0 w) Cb o (Xz (jF e p,v,kk)):=by
      intro v kk hdo hkl ρ w hs hOut hC hD
      have hrd:∀s∈slotsOf ops o,Za ρ e (.tmp s):=fun s hs'=>al8 ht ho hops Dx h0 he0 hOut hD hs'
      have hR:Ep ρ e o:=by
       intro x hx
       cases x with
       | tmp s =>
        refine hrd s (aBA _ ?_)
        rw[aA0]
        exact⟨.tmp s,by simpa using hx,rfl⟩
       | const _=>intro i y h; cases h
       | global _=>intro i y h; cases h
       | func _=>intro i y h; cases h
      cases hg:o.guard with
      | none =>
       unfold pathOf at hp
       rw[hg]at hp
       obtain rfl:=azF hp
       exact hdo ρ w hs hR rfl hC hkl
      | some gb =>
       obtain⟨g,b⟩:=gb
       have hiff:Rel.valOf ρ ((ops[g]?).bind (·.dst)) = .bool b↔jF e p=true:=by
        unfold pathOf at hp
        rw[hg]at hp
        simp only at hp
        cases hs':(ops[g]?).bind (·.dst)with
        | none=>simp[hs']at hp
        | some s =>
         simp only[hs']at hp
         have hR1:Za ρ e (.tmp s):=hrd s (aBh _ (by rw[hg]; simp[hs']))
         cases hl:e.lookup s with
         | none=>simp[hl]at hp
         | some x =>
          obtain⟨q,u⟩:=x
          have hv:=hR1 s _ rfl hl
          cases u<;>simp only[hl]at hp<;>try (cases hp)
          rename_i t
          show ρ (.tmp s)=_↔_
          rw[hv,tN]
          unfold den tst
          rw[hl]
          simp only
          cases jF e q<;>cases b<;>cases t<;>simp[undef]
       refine⟨fun hv=>hdo ρ w hs hR (hiff.1 hv) hC hkl,fun hv=>?_⟩
       have:jF e p=false:=by
        cases h:jF e p with
        | false=>rfl
        | true=>exact absurd (hiff.2 h) hv
       show undef=_root_.cond (jF e p) v undef
       rw[this]; rfl
     cases r with
     | val v =>
      simp only[hpo,h1]at hx
      cases hx':exec P ms ops n os (put e o.dst p v) ks' cs with
      | none=>simp[hx']at hx
      | some z =>
       obtain⟨e1,L',C',T'⟩:=z
       simp only[hx',azy,azA]at hx
       obtain⟨rfl,rfl,rfl,rfl⟩:=hx
       obtain⟨hkl,hL2,hk2⟩:=uT h1 hL hk0
       have hTi:Ta[i]?=some (jF e p,v,true):=by have:=azH List.head? hTa; simpa[List.head?_drop]using this
       have afz:Ta.drop (i+1)=T':=by have:=azH List.tail hTa; simpa[List.tail_drop]using this
       refine⟨obl v _ (fun ρ w hs hR hG hC hk=>?_) hkl,?_⟩
       ·refine Qv (Dw h1 hs hR hG (hm.ext hC) hk) Ext.rfl' ?_
        rw[wZ hdst]
        show v=_root_.cond (jF e p) v undef
        rw[hG]; rfl
       ·rw[hd1]at hx' hpo
        exact Jq hops Dx h0 he0 hm os (i+1) ahN afz (ht.put ho hd1 hTi hpo) hx' hL2 hk2 hO
     | new =>
      rcases PO (PS h1)with ⟨_,_,_,_,_,_,_,_,rfl,_⟩ | ⟨_,_,rfl,_⟩<;>exact hk0.1.elim
     | enter f args =>
      simp only[hpo,h1]at hx
      cases cs with
      | nil=>simp at hx
      | cons v cs' =>
       simp only at hx
       cases hx':exec P ms ops n os (put e o.dst p v) ks' cs' with
       | none=>simp[hx']at hx
       | some z =>
        obtain⟨e1,L',C',T'⟩:=z
        simp only[hx',azy,azA]at hx
        obtain⟨rfl,rfl,rfl,rfl⟩:=hx
        obtain⟨hkl,hL2,hk2⟩:=uT h1 hL hk0
        have hTi:Ta[i]?=some (jF e p,v,false):=by have:=azH List.head? hTa; simpa[List.head?_drop]using this
        have afz:Ta.drop (i+1)=T':=by have:=azH List.tail hTa; simpa[List.tail_drop]using this
        refine⟨obl v _ (fun ρ w hs hR hG hC hk=>?_) hkl,?_⟩
        ·refine Cc (Dw h1 hs hR hG (hm.ext hC) hk) ?_
         refine(hO.1 w hC hG).mono fun e2 w2 hk3=>?_
         obtain⟨rfl,hE⟩:=hk3
         refine⟨v,rfl,hE,?_⟩
         rw[wZ hdst]
         show v=_root_.cond (jF e p) v undef
         rw[hG]; rfl
        ·rw[hd1]at hx' hpo
         exact Jq hops Dx h0 he0 hm os (i+1) ahN afz (ht.put ho hd1 hTi hpo) hx' hL2 hk2 hO.2
end
theorem Uj{P:Program}{ms:List fA}{ops:Array Oper}{n:Nat}{K:Act→Prop}{w:World}:∀(os:List Oper) {e e':Env} {ks:List Key} {L:List Loc} {C:List Zb} {T:List T3} {cs:List Value} {a:Act},
  exec P ms ops n os e ks cs=some (e',L,C,T)→a.tmps.size=n→Holds a.eval e→(∀a',a'.tmps.size=n→a'.defers=a.defers→Holds a'.eval e'→K a')→Rel.End K w os (T.map Xz) a
 | [],e,e',ks,L,C,T,cs,a,hx,hsz,hh,hK=>by
  unfold exec at hx
  split at hx
  ·simp only[azy,azA]at hx
   obtain⟨rfl,-,-,rfl⟩:=hx
   exact hK a hsz rfl hh
  ·cases hx
 | o::os,e,e',ks,L,C,T,cs,a,hx,hsz,hh,hK=>by
  unfold exec at hx
  cases hp:pathOf ops e o with
  | none=>simp[hp]at hx
  | some p =>
   simp only[hp]at hx
   cases hpo:wW n e o.dst p with
   | false=>simp[hpo]at hx
   | true =>
    cases h1:Y5 P ms e p ks o with
    | none=>simp[hpo,h1]at hx
    | some r =>
     obtain⟨r,ks',L1⟩:=r
     have go:∀v kk L' C' T' cs',exec P ms ops n os (put e o.dst p v) ks' cs'=some (e',L',C',T')→Rel.End K w (o::os) (((jF e p,v,kk)::T').map Xz) a:=by
      intro v kk L' C' T' cs' hx' u hu
      refine Uj os hx' (by rw[sD]; exact hsz) (Dv hh hsz hpo hu) fun a' h1 h2 h3=>hK a' h1 (by rw[h2,put_defers]) h3
     cases r with
     | val v =>
      simp only[hpo,h1]at hx
      cases hx':exec P ms ops n os (put e o.dst p v) ks' cs with
      | none=>simp[hx']at hx
      | some z =>
       obtain⟨e1,L',C',T'⟩:=z
       simp only[hx',azy,azA]at hx
       obtain⟨rfl,rfl,rfl,rfl⟩:=hx
       exact go v _ _ _ _ _ hx'
     | new =>
      simp only[hpo,h1]at hx
      cases cs with
      | nil=>simp at hx
      | cons v cs' =>
       simp only at hx
       cases hx':exec P ms ops n os (put e o.dst p v) ks' cs' with
       | none=>simp[hx']at hx
       | some z =>
        obtain⟨e1,L',C',T'⟩:=z
        simp only[hx',azy,azA]at hx
        obtain⟨rfl,rfl,rfl,rfl⟩:=hx
        exact go v _ _ _ _ _ hx'
     | enter f args =>
      simp only[hpo,h1]at hx
      cases cs with
      | nil=>simp at hx
      | cons v cs' =>
       simp only at hx
       cases hx':exec P ms ops n os (put e o.dst p v) ks' cs' with
       | none=>simp[hx']at hx
       | some z =>
        obtain⟨e1,L',C',T'⟩:=z
        simp only[hx',azy,azA]at hx
        obtain⟨rfl,rfl,rfl,rfl⟩:=hx
        exact go v _ _ _ _ _ hx'
end Go.Sx
