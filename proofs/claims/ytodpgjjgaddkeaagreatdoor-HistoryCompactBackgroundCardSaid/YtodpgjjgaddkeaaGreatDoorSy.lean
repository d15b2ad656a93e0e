/- The walk by reckoning: what an act holds (slots, own -/
import Derived.Test.YtodpgjjgaddkeaaGreatDoorSx
import Derived.KernelRfl
set_option linter.unusedVariables false
set_option linter.unusedSimpArgs false
namespace Go.Sx
open Go.Proofs.YtodpgjjgaddkeaaGreatDoor Go.RowKit Go.Rel Go.Vp
structure St (w0:World) (a:Act) (w:World) (n:Nat) (l:List (Nat×Value)) (bl:List (Nat×List Value)) (vs:List fD):Prop where
 s:Vp.St a n l
 E:Ext w0 w
 own:∀p∈bl,Bx w p.1 p.2.toArray∧w0.heap.size<=p.1
 apart:(bl.map (·.1)).Nodup
 mem:∀m∈vs,(m.1<w.heap.size∧w.rangeAt m.1 m.2.1 m.2.2)∧∀p∈bl,p.1≠m.1
def jJ(bl:List (Nat×List Value))(vs:List fD):List fD:=bl.map (λp=>(p.1,0,p.2))++vs
def lift(l:List (Nat×Value)):Env:=l.map λp=>(p.1,[],p.2)
section
variable{P:Program}{ops:Array Oper}{Q:Exit->Act->World->Prop}{w0:World}{a:Act}{w:World}{os:List Oper}{n:Nat}{l:List (Nat×Value)}{bl:List (Nat×List Value)}{vs:List fD}
theorem St.JB(S:St w0 a w n l bl vs):Mem w (jJ bl vs):=by
 intro m hm;rcases aAu.1 hm with h | h
 .obtain⟨p,hp,rfl⟩:=aAi.1 h;have:=(S.own p hp).1;exact⟨this.1,λj v hj=>by
   show w.cell? ⟨p.1,0+j,none⟩=some v;rw[aAK,this.2.1]; simpa using hj⟩
 exact(S.mem m h).1
variable{b r off k s:Nat}{v V u:Value}{A cs:List Value}{f:FuncId}{args:Array Value}{y x:Code}{c:Operand}{ty:TypeId}{ks:List Key}{o:Oper}{os':List Oper}{w1:World}
theorem jK(l:List (Nat×Value))(i:Nat):(lift l).lookup i=(l.lookup i).map λv=>([],v):=by
 induction l with
 | nil=>rfl
 | cons p l ih =>
  show List.lookup i ((p.1,[],p.2)::lift l)=_;rw[aAG,aAG];cases i==p.1
  .exact ih
  rfl
theorem bZ(h:Vp.St a n l):Holds a.eval (lift l):=by
 intro i x hx;rw[jK]at hx;cases hl:l.lookup i with
 | none=>simp[hl]at hx
 | some v =>
  simp only[hl,aAF,azT]at hx;subst hx;rw[h.has i v hl]; rfl
theorem St.grow{w':World}(S:St w0 a w n l bl vs)(hE:Ext w w'):St w0 a w' n l bl vs:=
 ⟨S.s,K00 S.E hE,λp hp=>⟨(S.own p hp).1.ext hE,(S.own p hp).2⟩,S.apart,λm hm =>
  ⟨⟨aAk (S.mem m hm).1.1 hE.size,pY (S.mem m hm).1.2 (S.mem m hm).1.1 hE⟩,(S.mem m hm).2⟩⟩
theorem St.act{a':Act}{l':List (Nat×Value)}(S:St w0 a w n l bl vs)(h:Vp.St a' n l'):St w0 a' w n l' bl vs:=⟨h,S.E,S.own,S.apart,S.mem⟩
def cl1(e:Env)(x:qj×Value):qj×Value:=match x.1 with | []=>x | q=>(match jI e q with | true=>([],x.2) | false=>x)
theorem afO{e:Env}{x:qj×Value}(h:cl1 e x=([],v)):x.2=v∧jI e x.1=true:=by
 obtain⟨q,u⟩:=x;cases q with
 | nil =>
  have h:(([],u):qj×Value)=([],v):=h;simp only[azW,true_and]at h;exact⟨h,I⟩
 | cons c r =>
  unfold cl1 at h;simp only at h;split at h
  .rename_i hg;simp only[azW,true_and]at h;exact⟨h,hg⟩
  simp at h
def fin(new:List (Nat×Value))(r:Out):List (Option (qj×Value))×List Loc×List Cl:=(new.map (λp=>(r.1.lookup p.1).map (cl1 r.1)),r.2.1,r.2.2.1.map (·.1))
def runs(P:Program)(ms:List fD)(ops:Array Oper)(n:Nat)(os:List Oper)(l:List (Nat×Value))(ks:List Key)(cs:List Value)(new:List (Nat×Value)):=(exec P ms ops n os (lift l) ks cs).map (fin new)
def wants(ms:List fD)(ks:List Key)(cl:List Cl)(new:List (Nat×Value)):Option (List (Option (qj×Value))×List Loc×List Cl):=some (new.map (λp=>some ([],p.2)),ks.map (vX ms),cl)
def rU(os:List Oper)(l new:List (Nat×Value)):Bool:=os.all λo=>match o.dst with | some d=>(new.lookup d).isSome||(l.lookup d).isNone | none=>true
theorem yH{P:Program}{ms:List fD}{ops:Array Oper}{n:Nat}{i:Nat}:∀(os:List Oper) {e e':Env} {ks:List Key} {L:List Loc} {C:List ZC} {T:List T3} {cs:List Value},
  exec P ms ops n os e ks cs=some (e',L,C,T)->(∀o∈os,o.dst≠some i)->e'.lookup i=e.lookup i
 | [],e,e',ks,L,C,T,cs,hx,_=>by
  unfold exec at hx
  split at hx
  .simp only[azT,azW]at hx
   rw[hx.1]
  .cases hx
 | o::os,e,e',ks,L,C,T,cs,hx,hno=>by
  unfold exec at hx
  cases hp:pathOf ops e o with
  | none=>simp[hp]at hx
  | some p =>
   simp only[hp]at hx
   have hput:∀v,(put e o.dst p v).lookup i=e.lookup i:=by
    intro v
    have:=hno o Y
    cases hd:o.dst with
    | none=>rfl
    | some d =>
     have hne:(i==d)=false:=by
      rw[hd]at this
      simp only[ne_eq,azT]at this
      simpa using λh:i=d=>this h.symm
     simp only[put,aAG,hne]
   split at hx
   .split at hx
    .rename_i v ks' L1 _ _ _ _ _ _ hx'
     simp only[azT,azW]at hx
     obtain⟨rfl,-⟩:=hx
     rw[yH os hx' λo ho=>hno o (by simp[ho]),hput]
    .cases hx
   .split at hx
    .split at hx
     .rename_i hx'
      simp only[azT,azW]at hx
      obtain⟨rfl,-⟩:=hx
      rw[yH os hx' λo ho=>hno o (by simp[ho]),hput]
     .cases hx
    .cases hx
   .split at hx
    .split at hx
     .rename_i hx'
      simp only[azT,azW]at hx
      obtain⟨rfl,-⟩:=hx
      rw[yH os hx' λo ho=>hno o (by simp[ho]),hput]
     .cases hx
    .cases hx
   .cases hx
theorem Ea{ms:List fD}{cl:List Cl}{new:List (Nat×Value)}(h:runs P ms ops n os l ks cs new=wants ms ks cl new) :
  ∃e' T C,exec P ms ops n os (lift l) ks cs=some (e',ks.map (vX ms),C,T)∧C.map (·.1)=cl∧∀i v,new.lookup i=some v->∃q,e'.lookup i=some (q,v)∧jI e' q=true:=by
 unfold runs wants at h;cases hx:exec P ms ops n os (lift l) ks cs with
 | none=>simp[hx]at h
 | some r =>
  obtain⟨e',L,C,T⟩:=r;simp only[hx,aAF,fin,azT,azW]at h;obtain⟨h1,rfl,rfl⟩:=h;refine⟨e',T,C,I,I,λi v hl=>?_⟩;have hm:(i,v)∈new:=by
   clear h1;induction new with
   | nil=>simp at hl
   | cons p new ih =>
    rw[aAG]at hl;by_cases hi:i=p.1
    .subst hi;simp only[aBB,azT]at hl;subst hl; simp
    have e1:(i==p.1)=false:=by simpa using hi
    rw[e1]at hl;exact aA4 _ (ih hl)
  have:=List.map_inj_left.1 h1 (i,v) hm;simp only[Option.map_eq_some_iff]at this;obtain⟨x,h3,h4⟩:=this;obtain⟨h5,h6⟩:=afO h4;exact⟨x.1,by rw[h3,<-h5],h6⟩
theorem X0{new:List (Nat×Value)}{i:Nat}(h:(new++l).lookup i=some v):new.lookup i=some v∨(new.lookup i=none∧l.lookup i=some v):=by
 induction new with
 | nil=>exact .inr ⟨I,h⟩
 | cons p new ih =>
  rw[aBe,aAG]at h;rw[aAG];cases hi:i==p.1
  .rw[hi]at h; exact ih h
  rw[hi]at h; exact .inl h
theorem Gs{ms:List fD}{e':Env}{L:List Loc}{C:List ZC}{T:List T3}{new:List (Nat×Value)}(hx:exec P ms ops n os (lift l) ks cs=some (e',L,C,T))(hn:∀i v,new.lookup i=some v->∃q,e'.lookup i=some (q,v)∧jI e' q=true)(hk:rU os l new=true)
  {a':Act} (hsz:a'.tmps.size=n) (hd:a'.defers=[]) (hh:Holds a'.eval e'):Vp.St a' n (new++l):=by
 refine⟨hsz,hd,λi v hl=>?_⟩;rcases X0 hl with h | ⟨h1,h2⟩
 .obtain⟨q,h3,h4⟩:=hn i v h;rw[hh i _ h3];show _root_.cond (jI e' q) v undef=v;rw[h4]; rfl
 have:∀o∈os,o.dst≠some i:=by
  intro o ho hd;unfold rU at hk;rw[aAr]at hk;have:=hk o ho;rw[hd]at this;simp[h1,h2]at this
 have e1:=yH (i:=i) os hx this;rw[jK,h2]at e1;rw[hh i _ e1]; rfl
theorem run(S:St w0 a w n l bl vs)(k:Nat)(ks:List Key)(new:List (Nat×Value))(next:∀a',St w0 a' w n (new++l) bl vs->wpList P ops Q (os.drop k) a' w)(hk:yU P ks:=by exact G)
  (hx:runs P (jJ bl vs) ops n (os.take k) l ks [] new=wants (jJ bl vs) ks [] new:=by kernel_rfl) (hs:rU (os.take k) l new=true:=by kernel_rfl):wpList P ops Q os a w:=by
 obtain⟨e',T,C,h1,hcl,h2⟩:=Ea hx;rw[<-aBQ k os];obtain rfl:C=[]:=by simpa using hcl
 refine Qi _ h1 S.s.size (bZ S.s) S.JB I hk G λa' w' _ hC hsz hd hh=>?_;obtain rfl:=hC I;exact next a' (S.act (Gs h1 h2 hs hsz (by rw[hd,S.s.defers]) hh))
theorem adw(S:St w0 a w n l bl vs)(k:Nat)(ks:List Key)(cl:List Cl)(new:List (Nat×Value))(hO:Obl P w cl)(next:∀a' w',Ext w w'->St w0 a' w' n (new++l) bl vs->wpList P ops Q (os.drop k) a' w')(hk:yU P ks:=by exact G)
  (hx:runs P (jJ bl vs) ops n (os.take k) l ks (cl.map (·.2.2.2)) new=wants (jJ bl vs) ks cl new:=by kernel_rfl) (hs:rU (os.take k) l new=true:=by kernel_rfl):wpList P ops Q os a w:=by
 obtain⟨e',T,C,h1,hcl,h2⟩:=Ea hx;rw[<-aBQ k os];rw[<-hcl]at hO;refine Qi _ h1 S.s.size (bZ S.s) S.JB I hk hO λa' w' hE _ hsz hd hh=>?_;exact next a' w' hE ((S.grow hE).act (Gs h1 h2 hs hsz (by rw[hd,S.s.defers]) hh))
theorem draw(S:St w0 a w n l bl vs){id:Nat}(m:Nat)(ks:List Key)(cl:List Cl)(new:List (Nat×Value))(hO:Obl P w cl)(next:∀a' w',Ext w w'->St w0 a' w' n (new++l) bl vs->wpList P os.toArray Q (os.drop m) a' w')(hk:yU P ks:=by exact G)
  (hx:runs P (jJ bl vs) os.toArray n (os.take m) l ks (cl.map (·.2.2.2)) new=wants (jJ bl vs) ks cl new:=by kernel_rfl) (hs:rU (os.take m) l new=true:=by kernel_rfl)
  (hmo:P.follows .mixedOrders=true:=by kernel_rfl) (hB:okB os.toArray m n=true:=by kernel_rfl) (hD:rV os.toArray (os.take m)=true:=by kernel_rfl):(Code.region id os.toArray true).wp P Q a w:=by
 obtain⟨e',T,C,h1,hcl,h2⟩:=Ea hx;rw[<-hcl]at hO;have hops:∀(j:Nat) o,(os.take m)[j]?=some o->os.toArray[j]?=some o:=λj o h=>by
  rw[List.getElem?_take]at h;split at h
  .simpa using h
  cases h
 have avH:=JI (P:=P) (ops:=os.toArray) (hd:=os.take m) (Ta:=T) (n:=n) (e0:=lift l) (Dn:=a.eval) (w0:=w) hops hD (bZ S.s) (λs x hx=>by
  rw[jK]at hx;cases hl:l.lookup s with
  | none=>simp[hl]at hx
  | some v=>simp only[hl,aAF,azT]at hx; rw[<-hx]) S.JB (os.take m) 0 I I (λs x hx => .inr ⟨λj o hj=>by omega,hx⟩) h1 I hk hO
 refine Rel.wp_region m hmo (by rw[S.s.size]; exact hB) Ext (λw'=>Ext w w') (T.map XZ) (below_drewN (aAe _ _) 1) (λ_ _ h k=>K00 h k) ?_ avH λw' hC=>?_
 .intro T' hT v w1 w2 _ h;obtain⟨x,_,rfl⟩:=aAi.1 hT;exact h
 refine UO _ h1 S.s.size (bZ S.s) λa' hsz hd hh=>?_;exact next a' w' hC ((S.grow hC).act (Gs h1 h2 hs hsz (by rw[hd,S.s.defers]) hh))
theorem St.ch{w':World}{b:Nat}{A:List Value}(S:St w0 a w n l bl vs)(hc:Ch b w w'){k:Nat}{A0:List Value}(hk:bl[k]?=some (b,A0))(hb:Bx w' b A.toArray)(hE:Ext w0 w'):St w0 a w' n l (bl.set k (b,A)) vs:=by
 have hkl:k<bl.length:=(List.getElem?_eq_some_iff.1 hk).1;have hmem:(b,A0)∈bl:=List.mem_of_getElem? hk;have hnd:=S.apart;have hbs:(bl.set k (b,A)).map (·.1)=bl.map (·.1):=by
  apply List.ext_getElem?;intro i;rw[List.getElem?_map,List.getElem?_map,List.getElem?_set];by_cases hi:k=i
  .subst hi; rw[azQ I,azQ hkl,hk]; rfl
  rw[azP hi]
 have avI:∀p∈bl.set k (b,A),∃q∈bl,q.1=p.1:=λp hp=>by
  have:p.1∈(bl.set k (b,A)).map (·.1):=aAi.2 ⟨p,hp,I⟩;rw[hbs]at this;obtain⟨q,hq,he⟩:=aAi.1 this;exact⟨q,hq,he⟩
 refine⟨S.s,hE,λp hp=>?_,by rw[hbs]; exact hnd,λm hm=>⟨?_,λp hp=>?_⟩⟩
 .obtain⟨i,hi⟩:=List.getElem?_of_mem hp;rw[List.getElem?_set]at hi;by_cases hik:k=i
  .subst hik;rw[azQ I,azQ hkl]at hi;obtain rfl:=az1 hi;exact⟨hb,(S.own _ hmem).2⟩
  rw[azP hik]at hi;have hpm:=List.mem_of_getElem? hi;refine⟨(S.own p hpm).1.ch hc λe=>hik ?_,(S.own p hpm).2⟩;have h1:(bl.map (·.1))[k]?=some b:=by rw[List.getElem?_map,hk]; rfl
  have h2:(bl.map (·.1))[i]?=some b:=by rw[List.getElem?_map,hi]; exact az0 some e
  exact(List.getElem?_inj (by simpa using hkl) hnd).1 (h1.trans h2.symm)
 .obtain⟨⟨h1,h2⟩,h3⟩:=S.mem m hm;refine⟨aAk h1 hc.size,λj v hj=>?_⟩;rw[hc.cell (p:=⟨m.1,m.2.1+j,none⟩) h1 (λe=>h3 _ hmem e.symm)];exact h2 j v hj
 obtain⟨q,hq,he⟩:=avI p hp;rw[<-he]; exact(S.mem m hm).2 q hq
def callOf(P:Program)(os:List Oper)(l:List (Nat×Value)):Option (FuncId×Array Value×Option Nat):=
 match os with
 | o::_=>(match o.guard,zo o.op || !o.op.operands.all (λx=>(rd (lift l) [] x).isSome),iT (ev0 P (execOp (yP (lift l) []) o))with
  | none,false,some (.enter f args)=>some (f,args,o.dst)
  | _,_,_=>none)
 | []=>none
def yQ(l:List (Nat×Value))(d:Option Nat)(v:Value):List (Nat×Value):=match d with | some d=>(d,v)::l | none=>l
def vI(n:Nat)(d:Option Nat):Bool:=match d with | some d=>decide (d<n) | none=>true
theorem uP{a:Act}(h:Vp.St a n l){d:Option Nat}(hd:vI n d=true)(v:Value):Vp.St (a.put d v) n (yQ l d v):=by
 cases d with
 | none=>exact h
 | some d=>exact h.put d (by simpa[vI]using hd) v
theorem jL(S:St w0 a w n l bl vs)(d:Option Nat){R:Ending->World->Prop}(hc:Calls P f args w R)
  (next:∀e w',R e w'->∃v,e = .returned v∧Ext w w'∧∀a',St w0 a' w' n (yQ l d v) bl vs->wpList P ops Q (os.drop 1) a' w')
  (hx:callOf P os l=some (f,args,d):=by kernel_rfl) (hd:vI n d=true:=by rfl):wpList P ops Q os a w:=by
 cases os with
 | nil=>cases hx
 | cons o os =>
  unfold callOf at hx;simp only at hx;split at hx
  .rename_i f' args' hg hav hev;simp only[azT,azW]at hx;obtain⟨rfl,rfl,rfl⟩:=hx;simp only[aAI]at hav;have hrun:(execOp a.eval o).run P w = .ok (.enter f' args') w:=lS (Std.act a) (iq (bZ S.s) o) (p:=[]) I hav.1 (by simpa using hav.2) hev;unfold wpList;rw[azQ (by simp[Region.wanted,hg])];left;unfold Oper.wp;rw[hrun];simp only[Oper.upon];refine hc.mono λe w' hR=>?_;obtain⟨v,rfl,hE,hn⟩:=next e w' hR;exact hn _ ((S.grow hE).act (uP S.s hd v))
  cases hx
theorem air(S:St w0 a w n l bl vs)(k:Nat)(A':List Value)(d:Option Nat){R:Ending->World->Prop}(hk:bl[k]?=some (b,A))(hc:Calls P f args w R)
  (next:∀e w',R e w'->∃v,e = .returned v∧Ext w0 w'∧Ch b w w'∧Bx w' b A'.toArray∧∀a',St w0 a' w' n (yQ l d v) (bl.set k (b,A')) vs->wpList P ops Q (os.drop 1) a' w')
  (hx:callOf P os l=some (f,args,d):=by kernel_rfl) (hd:vI n d=true:=by rfl):wpList P ops Q os a w:=by
 cases os with
 | nil=>cases hx
 | cons o os =>
  unfold callOf at hx;simp only at hx;split at hx
  .rename_i f' args' hg hav hev;simp only[azT,azW]at hx;obtain⟨rfl,rfl,rfl⟩:=hx;simp only[aAI]at hav;have hrun:(execOp a.eval o).run P w = .ok (.enter f' args') w:=lS (Std.act a) (iq (bZ S.s) o) (p:=[]) I hav.1 (by simpa using hav.2) hev;unfold wpList;rw[azQ (by simp[Region.wanted,hg])];left;unfold Oper.wp;rw[hrun];simp only[Oper.upon];refine hc.mono λe w' hR=>?_;obtain⟨v,rfl,hE,hC,hX,hn⟩:=next e w' hR;exact hn _ ((S.ch hC hk hX hE).act (uP S.s hd v))
  cases hx
theorem BO(S:St w0 a w n l bl vs)(d:Nat)(hc:Calls P f args w λe w'=>e = .returned V∧Ext w w')
  (next:∀a' w',Ext w w'->St w0 a' w' n ((d,V)::l) bl vs->wpList P ops Q (os.drop 1) a' w') (hx:callOf P os l=some (f,args,some d):=by kernel_rfl) (hd:vI n (some d)=true:=by rfl):wpList P ops Q os a w:=
 jL S (some d) hc (λe w' h=>⟨V,h.1,h.2,λa'=>next a' w' h.2⟩) hx hd
theorem calls(S:St w0 a w n l bl vs)(d:Nat)(hc:Calls P f args w λe w'=>e = .returned V∧w=w')
  (next:∀a',St w0 a' w n ((d,V)::l) bl vs->wpList P ops Q (os.drop 1) a' w) (hx:callOf P os l=some (f,args,some d):=by kernel_rfl) (hd:vI n (some d)=true:=by rfl):wpList P ops Q os a w:=
 jL S (some d) hc (λe w' h=>⟨V,h.1,by rw[h.2]; exact K01,λa' s=>by obtain⟨-,rfl⟩:=h; exact next a' s⟩) hx hd
def EN(P:Program)(r:Nat)(os:List Oper)(l:List (Nat×Value)):Option (List Value×Value×Option Nat):=
 match os with
 | o::_=>(match o.guard,zo o.op || !o.op.operands.all (λx=>(rd (lift l) [] x).isSome),EM P r (execOp (yP (lift l) []) o)with
  | none,false,some (A,_,k)=>(match iT (ev0 P k)with | some (.val v)=>some (A,v,o.dst) | _=>none)
  | _,_,_=>none)
 | []=>none
theorem new(S:St w0 a w n l bl vs)(d:Nat)(A:List Value)(V:Nat->Value)(next:∀a' w' b,Ext w w'->b=w.heap.size->St w0 a' w' n ((d,V b)::l) ((b,A)::bl) vs->wpList P ops Q (os.drop 1) a' w')
  (hx:∀r,EN P r os l=some (A,V r,some d):=by intro r; kernel_rfl) (hd:vI n (some d)=true:=by rfl):wpList P ops Q os a w:=by
 have hx:=hx w.heap.size;cases os with
 | nil=>cases hx
 | cons o os =>
  unfold EN at hx;simp only at hx;split at hx
  .rename_i A' ty k hg hav hev;split at hx
   .rename_i v hv;simp only[azT,azW]at hx;obtain⟨rfl,rfl,hdst⟩:=hx;simp only[aAI]at hav;have hc:execOp a.eval o=execOp (yP (lift l) []) o:=by
     refine execOp_congr o (λcs b e1=>by rw[e1]at hav; cases hav.1) λx hx=>?_;have h2:=hav.2;simp only[aBg,aB7]at h2;obtain⟨v,hv⟩:=aAY.1 (h2 x hx);rw[gX (Std.act a) (iq (bZ S.s) o x hx) (p:=[]) I hv];simp[yP,hv]
    have hv':ev0 P k=some (.value (V w.heap.size)):=by
     unfold iT at hv;split at hv
     .rename_i h; obtain h2:=az1 hv; rw[h]; simp only[EZ.val.injEq]at h2; rw[h2]
     .cases hv
     cases hv
    have hrun:(execOp a.eval o).run P w = .ok (.value (V w.heap.size)) (w.alloc (.cells A'.toArray ty)):=by rw[hc,ni hev,nO hv']
    unfold wpList;rw[azQ (by simp[Region.wanted,hg])];left;unfold Oper.wp;rw[hrun];simp only[Oper.upon];have hE:Ext w (w.alloc (.cells A'.toArray ty)):=aF _ _;have S1:=S.grow hE;have hlt:∀p∈bl,p.1<w.heap.size:=λp hp=>(S.own p hp).1.1;rw[hdst];refine next _ _ w.heap.size hE I ⟨uP S.s hd _,S1.E,λp hp=>?_,?_,λm hm=>⟨(S1.mem m hm).1,λp hp=>?_⟩⟩
    .rcases az2.1 hp with rfl | hp
     .exact⟨GY w _ _,S.E.size⟩
     exact S1.own p hp
    .rw[aAE,aBZ];refine⟨λhm=>?_,S.apart⟩;obtain⟨p,hp,hpe⟩:=aAi.1 hm;have:=hlt p hp;simp only at hpe;omega
    rcases az2.1 hp with rfl | hp
    .have:=(S.mem m hm).1.1; simp only; omega
    exact(S1.mem m hm).2 p hp
   cases hx
  cases hx
theorem ads(S:St w0 a w n l bl vs)(d:Nat)(A:List Value)(ty:TypeId)(V:Nat->Value)(hos:os=o::os')(hg:o.guard=none)(hdst:o.dst=some d)
  (hrun:(execOp a.eval o).run P w = .ok (.value (V w.heap.size)) (w.alloc (.cells A.toArray ty))) (next:∀a' w' b,Ext w w'->b=w.heap.size->St w0 a' w' n ((d,V b)::l) ((b,A)::bl) vs->wpList P ops Q (os.drop 1) a' w')
  (hd:vI n (some d)=true:=by rfl):wpList P ops Q os a w:=by
 subst hos;unfold wpList;rw[azQ (by simp[Region.wanted,hg])];left;unfold Oper.wp;rw[hrun];simp only[Oper.upon];have hE:Ext w (w.alloc (.cells A.toArray ty)):=aF _ _;have S1:=S.grow hE;have hlt:∀p∈bl,p.1<w.heap.size:=λp hp=>(S.own p hp).1.1;rw[hdst];refine next _ _ w.heap.size hE I ⟨uP S.s hd _,S1.E,λp hp=>?_,?_,λm hm=>⟨(S1.mem m hm).1,λp hp=>?_⟩⟩
 .rcases az2.1 hp with rfl | hp
  .exact⟨GY w _ _,S.E.size⟩
  exact S1.own p hp
 .rw[aAE,aBZ];refine⟨λhm=>?_,S.apart⟩;obtain⟨p,hp,hpe⟩:=aAi.1 hm;have:=hlt p hp;simp only at hpe;omega
 rcases az2.1 hp with rfl | hp
 .have:=(S.mem m hm).1.1; simp only; omega
 exact(S1.mem m hm).2 p hp
theorem qO(S:St w0 a w n l bl vs)(d:Nat)(A:List Value)(next:∀a' w' b,Ext w w'->b=w.heap.size->St w0 a' w' n ((d,.q b 0)::l) ((b,A)::bl) vs->wpList P ops Q (os.drop 1) a' w')
  (hx:∀r,EN P r os l=some (A,.q r 0,some d):=by intro r; kernel_rfl) (hd:vI n (some d)=true:=by rfl):wpList P ops Q os a w:=new S d A _ next hx hd
theorem news(S:St w0 a w n l bl vs)(d m:Nat)(A:List Value)(next:∀a' w' b,Ext w w'->b=w.heap.size->St w0 a' w' n ((d,.slice (some ⟨b,0,none⟩) m m)::l) ((b,A)::bl) vs->wpList P ops Q (os.drop 1) a' w')
  (hx:∀r,EN P r os l=some (A,.slice (some ⟨r,0,none⟩) m m,some d):=by intro r; kernel_rfl) (hd:vI n (some d)=true:=by rfl):wpList P ops Q os a w:=new S d A (λb => .slice (some ⟨b,0,none⟩) m m) next hx hd
def lI(P:Program)(os:List Oper)(l:List (Nat×Value)):Option (Nat×Nat×Value×Nat):=
 match os with
 | o::_=>(match o.guard,o.dst,o.op with
  | none,none,.store ty x y=>(match rd (lift l) [] x,rd (lift l) [] y,P.info? ty with
   | some (.q b off),some v,some i=>some (b,off,v,i.size)
   | _,_,_=>none)
  | _,_,_=>none)
 | []=>none
theorem pV{os:List Oper}(h:lI P os l=some (b,off,v,k)):∃o os' ty x y,os=o::os'∧o.guard=none∧o.dst=none∧o.op = .store ty x y∧rd (lift l) [] x=some (.q b off)∧rd (lift l) [] y=some v∧(P.info? ty).map (·.size)=some k:=by
 cases os with
 | nil=>cases h
 | cons o os =>
  unfold lI at h;simp only at h;split at h
  .rename_i ty x y hg hd hop;split at h
   .rename_i b' off' v' i hx hy hi;simp only[azT,azW]at h;obtain⟨rfl,rfl,rfl,rfl⟩:=h;exact⟨o,os,ty,x,y,I,hg,hd,hop,hx,hy,by rw[hi]; rfl⟩
   cases h
  cases h
def spl(A:List Value)(off:Nat)(cs:List Value):List Value:=A.take off++cs++A.drop (off+cs.length)
theorem Xk{w:World}(h:Bx w b A.toArray)(o:Nat)(vs:List Value)(hn:o+vs.length<=A.length):Bx (w.setCells b o vs) b (spl A o vs).toArray:=by
 have hth:w.there b o vs.length:=λj hj=>by
  rw[h.2.1,h.2.2,Array.getElem?_eq_getElem (by simp; omega)]; exact⟨I,I⟩
 have hl:(A.take o).length=o:=by simp; omega
 unfold spl;refine⟨by rw[size_setCells]; exact h.1,λi=>?_,λi=>by rw[oV]; exact h.2.2 i⟩;by_cases h1:i<o
 .rw[kU b vs o w i (.inl h1),h.2.1];simp only[List.getElem?_toArray];rw[aAb,List.getElem?_append_left Z,List.getElem?_take_of_lt h1]
 by_cases h2:i<o+vs.length
 .obtain⟨j,rfl⟩:∃j,i=o+j:=⟨i-o,Z⟩;have:=World.rangeAt_setCells_same w b o vs hth j (vs[j]'Z) Y;rw[this];simp only[List.getElem?_toArray];rw[List.getElem?_append_left (by simp; omega),List.getElem?_append_right Z,hl,aCz,List.getElem?_eq_getElem]
 rw[kU b vs o w i (.inr Z),h.2.1];simp only[List.getElem?_toArray];rw[List.getElem?_append_right (by simp; omega)];simp only[azU,hl,List.getElem?_drop];congr 1; omega
theorem store(S:St w0 a w n l bl vs)(k:Nat)(hk:bl[k]?=some (b,A))(next:∀w',Ch b w w'->St w0 a w' n l (bl.set k (b,spl A off cs)) vs->wpList P ops Q (os.drop 1) a w')
  (hx:lI P os l=some (b,off,.agg cs.toArray,cs.length):=by kernel_rfl) (hf:decide (off+cs.length<=A.length)=true:=by kernel_rfl) (h1:cs.all (·.oneCell')=true:=by kernel_rfl):wpList P ops Q os a w:=by
 obtain⟨o,os',ty,x,y,rfl,hg,hd,hop,hx,hy,hi⟩:=pV hx;have hf':off+cs.length<=A.length:=by simpa using hf
 have hbx:=(S.own _ (List.mem_of_getElem? hk)).1;have hR:=iq (bZ S.s) o;have hxv:=gX (Std.act a) (hR x (by rw[hop]; simp[Op.operands])) (p:=[]) I hx;have hyv:=gX (Std.act a) (hR y (by rw[hop]; simp[Op.operands])) (p:=[]) I hy;have hth:w.there b off cs.toArray.size:=λj hj=>by
  have h3:j<cs.length:=by simpa using hj
  rw[hbx.2.1,hbx.2.2,Array.getElem?_eq_getElem (by simp; omega)]; exact⟨I,I⟩
 refine wpList_store_mid hg ty x y hop b off cs.toArray hxv hyv hth (by rw[hi]; simp) (by rw[<-h1]; simp) ?_;rw[hd];have hc:Ch b w (w.setCells b off cs):=(Ch.refl b w).setCells cs off;have hbw:w0.heap.size<=b:=(S.own _ (List.mem_of_getElem? hk)).2;exact next _ hc (S.ch hc hk (Xk hbx off cs hf') (uI S.E hbw cs off))
theorem store1(S:St w0 a w n l bl vs)(k:Nat)(hk:bl[k]?=some (b,A))(next:∀w',Ch b w w'->St w0 a w' n l (bl.set k (b,spl A off [v])) vs->wpList P ops Q (os.drop 1) a w')
  (hx:lI P os l=some (b,off,v,1):=by kernel_rfl) (hf:decide (off<A.length)=true:=by kernel_rfl) (h1:v.cells = #[v]:=by kernel_rfl) (h1':v.oneCell'=true:=by kernel_rfl):wpList P ops Q os a w:=by
 obtain⟨o,os',ty,x,y,rfl,hg,hd,hop,hx,hy,hi⟩:=pV hx;have hf':off<A.length:=by simpa using hf
 have hbx:=(S.own _ (List.mem_of_getElem? hk)).1;have hR:=iq (bZ S.s) o;have hxv:=gX (Std.act a) (hR x (by rw[hop]; simp[Op.operands])) (p:=[]) I hx;have hyv:=gX (Std.act a) (hR y (by rw[hop]; simp[Op.operands])) (p:=[]) I hy;have hc:Ch b w (w.setCells b off [v]):=(Ch.refl b w).setCells [v] off;have hbw:w0.heap.size<=b:=(S.own _ (List.mem_of_getElem? hk)).2;have hS:=S.ch hc hk (Xk hbx off [v] (by simp; omega)) (uI S.E hbw [v] off);have hcell:=hbx.2.1 off;rw[Array.getElem?_eq_getElem (by simpa using hf')]at hcell;have hrun:(Instr.storeAt ty (.q b off) v).run P w = .ok () (w.setCells b off [v]):=by
  cases hq:P.info? ty with
  | none=>simp[hq]at hi
  | some i =>
   have hsz:i.size=1:=by simpa[hq]using hi
   have:=run_storeCells_cells (P:=P) b off [v] 0 w (λj hj=>by obtain rfl:j=0:=(by simpa using hj); simp[hcell]) (λj hj=>by simpa using hbx.2.2 (off+j)) (λu hu=>by simp at hu; subst hu; exact h1');simp only[aBN]at this;simp[Instr.storeAt,Instr.sureAddr,storeVar,sizeOf,typeInfo,hq,h1,hsz,this]
 have hrun':(execOp a.eval o).run P w = .ok .skip (w.setCells b off [v]):=by
  unfold execOp;simp only[hop,hxv,hyv,aAS,hrun];rfl
 unfold wpList;rw[azQ (by simp[Region.wanted,hg])];left;unfold Oper.wp;rw[hrun'];simp only[Oper.upon];rw[hd];exact next _ hc hS
theorem St.sub(S:St w0 a w n l bl vs)(l':List (Nat×Value))(h:l'.map (λp=>l.lookup p.1)=l'.map (λp=>some p.2):=by kernel_rfl):St w0 a w n l' bl vs:=by
 refine S.act ⟨S.s.size,S.s.defers,λi v hl=>S.s.has i v ?_⟩;have hm:(i,v)∈l':=by
  clear h;induction l' with
  | nil=>simp at hl
  | cons p l' ih =>
   rw[aAG]at hl;by_cases hi:i=p.1
   .subst hi;simp only[aBB,azT]at hl;subst hl; simp
   have e1:(i==p.1)=false:=by simpa using hi
   rw[e1]at hl;exact aA4 _ (ih hl)
 exact List.map_inj_left.1 h (i,v) hm
theorem St.gW(S:St w0 a w n l bl vs)(k:Nat):St w0 a w n l (bl.drop k) vs:=
 ⟨S.s,S.E,λp hp=>S.own p (List.mem_of_mem_drop hp),List.Nodup.sublist ((List.drop_sublist k bl).map _) S.apart,λm hm=>⟨(S.mem m hm).1,λp hp=>(S.mem m hm).2 p (List.mem_of_mem_drop hp)⟩⟩
theorem St.view0(S:St w0 a w n l bl vs){b o:Nat}{cs:List Value}(hb:b<w0.heap.size)(hr:w0.rangeAt b o cs):St w0 a w n l bl ((b,o,cs)::vs):=
 ⟨S.s,S.E,S.own,S.apart,λm hm=>by
  rcases az2.1 hm with rfl | hm
  .refine⟨⟨aAk hb S.E.size,pY hr hb S.E⟩,λp hp e=>?_⟩
   have:=(S.own p hp).2
   simp only at e
   omega
  .exact S.mem m hm⟩
theorem St.view(S:St w0 a w n l bl vs){b o:Nat}{cs:List Value}(hb:b<w.heap.size)(hr:w.rangeAt b o cs)(hne:∀p∈bl,p.1≠b):St w0 a w n l bl ((b,o,cs)::vs):=
 ⟨S.s,S.E,S.own,S.apart,λm hm=>by
  rcases az2.1 hm with rfl | hm
  .exact⟨⟨hb,hr⟩,hne⟩
  .exact S.mem m hm⟩
theorem St.views(S:St w0 a w n l bl vs)(vs':List fD)(h:∀m∈vs',m∈vs):St w0 a w n l bl vs':=⟨S.s,S.E,S.own,S.apart,λm hm=>S.mem m (h m hm)⟩
theorem St.lZ(S:St w0 a w n l bl vs):St w0 a w n l bl []:=S.views [] λ_ h=>by cases h
theorem St.sn(S:St w0 a w n l bl vs){l':List (Nat×Value)}(h:l'.map (λp=>l.lookup p.1)=l'.map (λp=>some p.2):=by kernel_rfl):St w0 a w n l' bl []:=(S.sub l' h).lZ
theorem St.adopt(S:St w0 a w n l bl vs){b:Nat}{A:List Value}(hx:Bx w b A.toArray)(hb:w0.heap.size<=b)(hne:∀p∈bl,p.1≠b)(hv:∀m∈vs,m.1≠b):St w0 a w n l ((b,A)::bl) vs:=
 ⟨S.s,S.E,λp hp=>(by
  rcases az2.1 hp with rfl | hp
  .exact⟨hx,hb⟩
  .exact S.own p hp),(by
  rw[aAE,aBZ]
  refine⟨λhm=>?_,S.apart⟩
  obtain⟨p,hp,he⟩:=aAi.1 hm
  exact hne p hp he),λm hm=>⟨(S.mem m hm).1,λp hp=>(by
  rcases az2.1 hp with rfl | hp
  .exact λe=>hv m hm e.symm
  .exact(S.mem m hm).2 p hp)⟩⟩
theorem St.ne(S:St w0 a w n l bl vs){i j:Nat}{p q:Nat×List Value}(hi:bl[i]?=some p)(hj:bl[j]?=some q)(hij:i≠j):p.1≠q.1:=λe=>hij (by
 have h1:(bl.map (·.1))[i]?=some p.1:=by rw[List.getElem?_map,hi]; rfl
 have h2:(bl.map (·.1))[j]?=some p.1:=by rw[List.getElem?_map,hj,e]; rfl
 exact(List.getElem?_inj (by simpa using (List.getElem?_eq_some_iff.1 hi).1) S.apart).1 (h1.trans h2.symm))
theorem St.old(S:St w0 a w n l bl vs)(k:Nat){b:Nat}{A:List Value}(hk:bl[k]?=some (b,A):=by rfl):w0.heap.size<=b:=(S.own _ (List.mem_of_getElem? hk)).2
theorem St.bx(S:St w0 a w n l bl vs)(k:Nat){b:Nat}{A:List Value}(hk:bl[k]?=some (b,A):=by rfl):Bx w b A.toArray:=(S.own _ (List.mem_of_getElem? hk)).1
theorem enter{fn:Func}{c:Code}{args:List Value}{R:Ending->World->Prop}{n:Nat}(hf:P.funcs[f]?=some fn)(hn:fn.ntmps=n)(h:∀a,St w a w n ((List.range args.length).zip args) [] []->c.wp P (bodyPost P fn R) a w)
  (hb:fn.body=some c:=by rfl) (hsz:decide (args.length<=n)=true:=by kernel_rfl):Calls P f args.toArray w R:=
 Vp.enter hf hb (by rw[hn]; simpa using hsz) λa s=>h a ⟨(by rw[hn]at s; simpa using s),K01,λp hp=>(by cases hp),List.nodup_nil,λm hm=>(by cases hm)⟩
theorem Dv{w0:World}{fn:Func}{c:Code}{args:List Value}{R:Ending->World->Prop}{n:Nat}(hf:P.funcs[f]?=some fn)(hn:fn.ntmps=n)(hE:Ext w0 w)(hx:Bx w b A.toArray)(hb:w0.heap.size<=b)
  (h:∀a,St w0 a w n ((List.range args.length).zip args) [(b,A)] []->c.wp P (bodyPost P fn R) a w) (hb':fn.body=some c:=by rfl) (hsz:decide (args.length<=n)=true:=by kernel_rfl):Calls P f args.toArray w R:=
 Vp.enter hf hb' (by rw[hn]; simpa using hsz) λa s=>h a ⟨(by rw[hn]at s; simpa using s),hE,λp hp=>(by
  obtain rfl:=aAn.1 hp; exact⟨hx,hb⟩),by simp,λm hm=>(by cases hm)⟩
theorem wrote(S:St w0 a w n l bl vs)(k:Nat)(A':List Value)(V:Value)(d:Option Nat)(hos:os=o::os')(hg:o.guard=none)(hdst:o.dst=d)(hk:bl[k]?=some (b,A))
  (hrun:(execOp a.eval o).run P w = .ok (.value V) w1) (hc:Ch b w w1) (hb:Bx w1 b A'.toArray) (hE:Ext w0 w1) (next:∀a',St w0 a' w1 n (yQ l d V) (bl.set k (b,A')) vs->wpList P ops Q (os.drop 1) a' w1) (hd:vI n d=true:=by rfl):wpList P ops Q os a w:=by
 subst hos;unfold wpList;rw[azQ (by simp[Region.wanted,hg])];left;unfold Oper.wp;rw[hrun];simp only[Oper.upon];rw[hdst];have S1:=S.ch hc hk hb hE;exact next _ (S1.act (uP S.s hd V))
theorem cond(S:St w0 a w n l bl vs){t:Bool}(ht:t=true->x.wp P Q a w)(hf:t=false->y.wp P Q a w)(hc:Vp.ev l c=some (.bool t):=by rfl):(Code.cond c x y).wp P Q a w:=wp_cond_split (S.s.ev hc) ht hf
theorem Ia(S:St w0 a w n l bl vs)(h:x.wp P Q a w)(hc:Vp.ev l c=some (.bool true):=by kernel_rfl):(Code.cond c x y).wp P Q a w:=wp_cond_true (S.s.ev hc) h
theorem Ei(S:St w0 a w n l bl vs)(h:y.wp P Q a w)(hc:Vp.ev l c=some (.z):=by kernel_rfl):(Code.cond c x y).wp P Q a w:=wp_cond_false (S.s.ev hc) h
theorem bG{id:Nat}{os:List Oper}(h:∀K:Act->World->Prop,(∀a w,y.wp P Q a w->K a w)->wpList P os.toArray (Exit.then K Q) os a w):(Code.seq (.region id os.toArray false) y).wp P Q a w:=
 az8 λK hK=>wp_region_lit (h K hK)
theorem done{os:List Oper}(h:Q .normal a w)(hx:os=[]:=by kernel_rfl):wpList P ops Q os a w:=by subst hx; exact h
theorem rn(S:St w0 a w n l bl vs)(k:Nat)(ks:List Key)(new:List (Nat×Value))(next:∀{a'},St w0 a' w n (new++l) bl vs->wpList P ops Q (os.drop k) a' w)(hk:yU P ks:=by exact G)
  (hx:runs P (jJ bl vs) ops n (os.take k) l ks [] new=wants (jJ bl vs) ks [] new:=by kernel_rfl) (hs:rU (os.take k) l new=true:=by kernel_rfl):wpList P ops Q os a w:=run S k ks new (λ_ S=>next S) hk hx hs
theorem same(h:Calls P f args w λe w'=>e = .returned V∧w=w'):Calls P f args w λe w'=>e = .returned V∧Ext w w':=h.mono λ_ _ h=>⟨h.1,by rw[<-h.2]; exact K01⟩
def kw(d:Nat)(x:Int):Key := .re d (.i (IntKind.i64.wrap x)) (.i x)
theorem adA{x:Int}(h : -9223372036854775808<=x∧x<=9223372036854775807):Value.i (IntKind.i64.wrap x) = .i x:=by
 have:IntKind.i64.wrap x=x:=by rw[aBv]; omega
 rw[this]
theorem lD{α:Type}{f:α->Value}(l:List α)(hx:Bx w b (l.map f).toArray)(hl:l.length<=maxLen):aJ 1 (λx=>[f x]) w (.slice (some ⟨b,0,none⟩) l.length l.length) l:=
 ⟨_,_,I,hl,.inr ⟨b,0,I,hx.1,azS _,λi hi j hj=>by
  obtain rfl:j=0:=by omega
  have:=hx.2.1 i
  simpa[hi]using this⟩⟩
theorem aK{w w':World}(h:Ext w1 w)(hc:Ch b w w')(hb:w1.heap.size<=b:=by omega):Ext w1 w':=(Ch.trans (Ch.aT h) hc).below hb (azS _)
theorem ajk{k:IntKind}{x y:Int}:Value.int k (if y<x then y else x) = .int k (min x y):=by congr 1; split<;>omega
theorem ajK{k:IntKind}{x y:Int}:Value.int k (if y>x then y else x) = .int k (max x y):=by congr 1; split<;>omega
theorem wrap_succ(h:(k:Int)+1<=9223372036854775807):Value.i (IntKind.i64.wrap ((k:Int)+1)) = .i (k+1:Nat):=by
 have:IntKind.i64.wrap ((k:Int)+1)=((k+1:Nat):Int):=by rw[aBv]; omega
 rw[this]
theorem fQ{k:BinOp}{t:TypeId}{ox oy:Operand}{xs ys:Array Value}(h:∀w,(binOp k t (.agg xs) (.agg ys)).run P w = .ok V w)(hm:P.eqGuardType P.depth t=false) :
  ∀w,(do eqGuard k t ox oy (.agg xs) (.agg ys); binOp k t (.agg xs) (.agg ys):Sem Value).run P w = .ok V w:=λw=>by
 simp only[aAS,h,run_eqGuard_agg w k t ox oy xs ys hm,aB6]
theorem OV(S:St w0 a w n l bl vs){fn:Func}{R:Ending->World->Prop}(hr:fn.results = #[.tmp r])(h:R (.returned v) w)(hv:Vp.ev l (.tmp r)=some v:=by rfl):bodyPost P fn R .ret a w:=agi S.s hr hv h
theorem KC(S:St w0 a w n l bl vs){fn:Func}{R:Ending->World->Prop}(hr:fn.results = #[.tmp r,.tmp s])(h:R (.returned (.tuple #[v,u])) w)(hv:Vp.ev l (.tmp r)=some v:=by rfl)(hu:Vp.ev l (.tmp s)=some u:=by rfl):bodyPost P fn R .ret a w:=acJ S.s hr hv hu h
theorem ah7{P:Program}{o:Nat}(h:Ql P ty cs=some v)(hr:w.rangeAt b o cs):(loadVar ty ⟨b,o,none⟩).run P w = .ok v w:=by
 have:=Pv h hr;simpa[Instr.loadAt,Instr.sureAddr]using this
theorem St.var(S:St w0 a w n l bl vs){k:Nat}{b:Nat}{A:List Value}(hk:bl[k]?=some (b,A)){ty:TypeId}{v:Value}(h:Ql P ty A=some v):(loadVar ty ⟨b,0,none⟩).run P w = .ok v w:=
 ah7 h (by
  have:=(S.bx k hk).range 0 A.length (cs:=A) Y
  exact this)
theorem akX(S:St w0 a w n l bl vs)(k:Nat){fn:Func}{R:Ending->World->Prop}(hr:fn.results = #[.cell r ty])(hk:bl[k]?=some (b,A))(h:R (.returned v) w)
  (hv:Vp.ev l (.tmp r)=some (.q b 0):=by kernel_rfl) (hl:Ql P ty A=some v:=by kernel_rfl):bodyPost P fn R .ret a w:=by
 refine⟨S.s.defers,_,?_,h⟩;have h1:=S.s.ev hv;have h2:=S.var hk hl;unfold results;rw[hr];simp only[Act.eval,Array.getD_eq_getD_getElem?]at h1;simp[h1,asAddr,h2]
theorem aqn(S:St w0 a w n l bl vs)(k:Nat){fn:Func}{R:Ending->World->Prop}(hr:fn.results = #[.cell r ty,.tmp s])(hk:bl[k]?=some (b,A))(h:R (.returned (.tuple #[v,u])) w)
  (hv:Vp.ev l (.tmp r)=some (.q b 0):=by kernel_rfl) (hu:Vp.ev l (.tmp s)=some u:=by rfl) (hl:Ql P ty A=some v:=by kernel_rfl):bodyPost P fn R .ret a w:=by
 refine⟨S.s.defers,_,?_,h⟩;have h1:=S.s.ev hv;have h3:=S.s.ev hu;have h2:=S.var hk hl;unfold results;rw[hr];simp only[Act.eval,Array.getD_eq_getD_getElem?]at h1 h3;simp[h1,h3,asAddr,h2]
section
variable{id:Nat}{fn:Func}{R:Ending->World->Prop}
theorem U0 [r:Vp.Ret Q (bodyPost P fn R)](S:St w0 a w n l bl vs){r:Nat}{v:Value}(hr:fn.results = #[.tmp r])(h:R (.returned v) w)(hv:Vp.ev l (.tmp r)=some v:=by rfl):Code.ret.wp P Q a w:=Vp.rt (OV S hr h hv)
theorem rt2 [r:Vp.Ret Q (bodyPost P fn R)](S:St w0 a w n l bl vs){r s:Nat}{v u:Value}(hr:fn.results = #[.tmp r,.tmp s])(h:R (.returned (.tuple #[v,u])) w)(hv:Vp.ev l (.tmp r)=some v:=by rfl)(hu:Vp.ev l (.tmp s)=some u:=by rfl):Code.ret.wp P Q a w:=Vp.rt (KC S hr h hv hu)
theorem rtc [r:Vp.Ret Q (bodyPost P fn R)](S:St w0 a w n l bl vs)(k:Nat){r b:Nat}{ty:TypeId}{A:List Value}{v:Value}(hr:fn.results = #[.cell r ty])(hk:bl[k]?=some (b,A))(h:R (.returned v) w)
  (hv:Vp.ev l (.tmp r)=some (.q b 0):=by kernel_rfl) (hl:Ql P ty A=some v:=by kernel_rfl):Code.ret.wp P Q a w:=Vp.rt (akX S k hr hk h hv hl)
end
end
abbrev Ak:=List (Nat×Fact)
def pT(U:Ak)(x:Nat->Value)(o:Oper)(t:T3):T3:=match o.dst with | some d=>(match U.lookup d with | some _=>(true,x d,false) | none=>t) | none=>t
def fx(U:Ak)(o:Oper)(t:T3):Fact:=match o.dst with | some d=>(match U.lookup d with | some K=>K | none=>XZ t) | none=>XZ t
def CZ:Ak->Prop
 | []=>True
 | p::r=>(∀v w w',Ext w w'->p.2 v w->p.2 v w')∧CZ r
def nV(U:Ak)(x:Nat->Value)(w:World):List Nat->Prop
 | []=>True
 | s::r=>(match U.lookup s with | some K=>K (x s) w | none=>True)∧nV U x w r
abbrev ClX:=FuncId×Array Value×Bool×Value×Nat
def afP(U:Ak)(d:Nat)(V v:Value)(w:World):Prop:=match U.lookup d with | some K=>K v w | none=>v=V
def UL(P:Program)(w:World)(U:Ak)(x:Nat->Value):List ClX->List (List Nat)->Prop
 | [],_=>True
 | _::_,[]=>False
 | c::cs,s::ss=>(∀w',Ext w w'->c.2.2.1=true->nV U x w' s->Calls P c.1 c.2.1 w' (λe w''=>∃v,e = .returned v∧afP U c.2.2.2.2 c.2.2.2.1 v w''∧Ext w' w''))∧UL P w U x cs ss
def iO(base:Nat)(A:List Value)(sh:Option Nat):Fact:=λv w=>∃b,v=shV sh b∧base<=b∧Bx w b A.toArray
theorem iO.mono{base:Nat}{A:List Value}{sh:Option Nat}:∀v w w',Ext w w'->iO base A sh v w->iO base A sh v w':=λv w w' hE ⟨b,h1,h2,h3⟩=>⟨b,h1,h2,h3.ext hE⟩
def NOk(U:Ak)(base q:Nat):List Key->Prop
 | []=>True
 | .new d A sh r::ks=>(r=q∧U.lookup d=some (iO base A sh))∧NOk U base q ks
 | _::ks=>NOk U base q ks
theorem NOk.mem{U:Ak}{base q:Nat}:∀{ks:List Key} {d:Nat} {A:List Value} {sh:Option Nat} {r:Nat},NOk U base q ks->Key.new d A sh r∈ks->r=q∧U.lookup d=some (iO base A sh)
 | [],_,_,_,_,_,h=>by cases h
 | k::ks,d,A,sh,r,h,hm=>by
  have h2:NOk U base q ks:=by cases k<;>first | exact h | exact h.2
  rcases az2.1 hm with e | hm2
  .subst e; exact h.1
  .exact NOk.mem h2 hm2
theorem _root_.Go.Rel.Upon.mono{P:Program}{K K':Value->World->Prop}{r:Result Next}(h:Upon P K r)(hK:∀v w,K v w->K' v w):Upon P K' r:=by
 cases r with
 | ok x w =>
  cases x<;>simp only[Upon]at h |-;case value u=>exact hK _ _ h
  case skip=>exact hK _ _ h
  case enter f args=>exact h.mono λe w' ⟨v,he,hk⟩=>⟨v,he,hK _ _ hk⟩
 | halt x w=>exact h.elim
abbrev Hnd:=List (Nat×List Nat)
def hpost(U:Ak)(o:Oper)(v:Value)(w:World):Prop:=match o.dst with | some d=>(match U.lookup d with | some K=>K v w | none=>True) | none=>True
def aqy(y:Nat->Value)(d m:Nat):Value := .tuple ((List.range m).map λj=>y (1000*(j+1)+d)).toArray
def xT(T:List (Nat×Nat))(y:Nat->Value)(s:Nat):Value:=match T.lookup s with | some m=>aqy y s m | none=>y s
def ajb(v:Value)(j:Nat):Value:=match v with | .tuple a=>a.getD j undef | _=>undef
def yOf(ρ:Operand->Value)(s:Nat):Value:=match decide (s<1000)with | true=>ρ (.tmp s) | false=>ajb (ρ (.tmp (s%1000))) (s/1000-1)
theorem aqz{T:List (Nat×Nat)}{ρ:Operand->Value}{s:Nat}(hs:s<1000)(h:∀m,T.lookup s=some m->∃a:Array Value,ρ (.tmp s) = .tuple a∧a.size=m):xT T (yOf ρ) s=ρ (.tmp s):=by
 unfold xT;cases hl:T.lookup s with
 | none=>simp only; unfold yOf; rw[aA6 hs]
 | some m =>
  obtain⟨a,e,hm⟩:=h m hl;simp only;unfold aqy;rw[e];congr 1;refine Array.ext (by simpa using hm.symm) λi h1 h2=>?_;have hi:i<m:=by simpa using h1
  simp only[List.getElem_toArray,List.getElem_map,List.getElem_range];unfold yOf;rw[aBp Z];simp only;rw[show(1000*(i+1)+s)%1000=s by omega,show(1000*(i+1)+s)/1000-1=i by omega,e];unfold ajb;simp[Array.getD_eq_getD_getElem?,h2]
theorem afQ{α:Type}{l:List (Nat×α)}{i:Nat}{x:α}(h:l.lookup i=some x):(i,x)∈l:=by
 induction l with
 | nil=>simp at h
 | cons y l ih =>
  rw[aAG]at h;by_cases hi:i=y.1
  .subst hi;simp only[aBB,azT]at h;subst h; simp
  have e1:(i==y.1)=false:=by simpa using hi
  rw[e1]at h;exact aA4 _ (ih h)
def pG(P:Program)(w:World)(U:Ak)(T:List (Nat×Nat))(x:Nat->Value)(os:List Oper):Hnd->List Key->Prop
 | h::hl,.hand _ kv::ks=>(∀o,os[h.1]?=some o->∀ρ w',Std ρ->Ext w w'->(∀q,q<1000->T.lookup q=none->ρ (.tmp q)=x q)->(∀q∈kv,ρ (.tmp q.1)=q.2)->nV U x w' h.2->Does P o ρ w' (λv w''=>Ext w' w''∧hpost U o (kept o v) w''))∧pG P w U T x os hl ks
 | [],.hand _ _::_=>False
 | hl,_::ks=>pG P w U T x os hl ks
 | _,[]=>True
def xP(os:List Oper):Hnd->List Key->Bool
 | h::hl,.hand d _::ks=>(os[h.1]?).bind (·.dst)==some d&&xP os hl ks
 | [],.hand _ _::_=>false
 | hl,_::ks=>xP os hl ks
 | _,[]=>true
theorem pG.get{P:Program}{w:World}{U:Ak}{T:List (Nat×Nat)}{x:Nat->Value}{os:List Oper}:∀{ks:List Key} {hl:Hnd} {d:Nat} {kv:List (Nat×Value)},pG P w U T x os hl ks->xP os hl ks=true->Key.hand d kv∈ks ->
  ∃h∈hl,(os[h.1]?).bind (·.dst)=some d∧∀o,os[h.1]?=some o->∀ρ w',Std ρ->Ext w w'->(∀q,q<1000->T.lookup q=none->ρ (.tmp q)=x q)->(∀q∈kv,ρ (.tmp q.1)=q.2)->nV U x w' h.2->Does P o ρ w' (λv w''=>Ext w' w''∧hpost U o (kept o v) w'')
 | [],_,_,_,_,_,hm=>by cases hm
 | k::ks,hl,d,kv,hx,hk,hm=>by
  have tl:∀{hl':Hnd},pG P w U T x os hl' ks->xP os hl' ks=true->Key.hand d kv∈ks->(∀h∈hl',h∈hl)->∃h∈hl,(os[h.1]?).bind (·.dst)=some d∧∀o,os[h.1]?=some o->∀ρ w',Std ρ->Ext w w'->(∀q,q<1000->T.lookup q=none->ρ (.tmp q)=x q)->(∀q∈kv,ρ (.tmp q.1)=q.2)->nV U x w' h.2->Does P o ρ w' (λv w''=>Ext w' w''∧hpost U o (kept o v) w''):=λ{hl'} h1 h2 h3 h4=>by
   obtain⟨h,hh,r⟩:=pG.get h1 h2 h3
   exact⟨h,h4 h hh,r⟩
  cases k with
  | hand d' kv' =>
   cases hl with
   | nil=>exact hx.elim
   | cons h hl =>
    have hk2:((os[h.1]?).bind (·.dst)==some d'&&xP os hl ks)=true:=hk
    simp only[az7,az4]at hk2
    rcases az2.1 hm with e | hm
    .simp only[Key.hand.injEq]at e
     obtain⟨rfl,rfl⟩:=e
     exact⟨h,by simp,hk2.1,hx.1⟩
    .exact tl hx.2 hk2.2 hm λh hh=>by simp[hh]
  | _ =>
   rcases az2.1 hm with e | hm
   .cases e
   .cases hl<;>exact tl hx hk hm λ_ h=>h
def JC(os:List Oper)(m:Nat)(U:Ak)(hl:Hnd):Bool:=hl.all λp=>match os[p.1]? with
 | some o=>(match o.dst with
  | some d=>(U.lookup d).isSome&&p.2.all (λq=>(Sx.waits os.toArray o).contains q&&(os.take m).any (λo=>o.dst==some q))&&(os.take m).zipIdx.all (λy=>y.1.dst != some d||y.2==p.1)
  | none=>false)
 | none=>false
def PtR(r:EZ)(v:Value)(k:Bool)(A02:Bool)(d:Option Nat)(ws:List Nat)(C:List ZC):Prop:=match r with | .val u=>u=v∧k=true | .enter f args=>k=false∧((f,args,A02,v),d,ws)∈C | .new=>k=false
section
variable{P:Program}{ms:List fD}{ops:Array Oper}{n:Nat}{hd:List Oper}{Ta:List T3}{e0:Env}
def Point(nw:Prop)(P:Program)(ms:List fD)(ops:Array Oper)(hd:List Oper)(Ta:List T3)(e0:Env)(C:List ZC)(ks0:List Key)(j:Nat)(o:Oper):Prop:=
 ∃e p ks1 ks2 r L1 v k,Trk hd Ta e0 j e∧pathOf ops e o=some p∧Zx P ms e p ks1 o=some (r,ks2,L1)∧(∃kl,ks1=kl++ks2∧L1=kl.map (vX ms)∧nI nw P kl)∧(∀k∈ks1,k∈ks0)∧Ta[j]?=some (jI e p,v,k) ∧
  PtR r v k (jI e p) o.dst (Sx.waits ops o) C
theorem JJ{nw:Prop}{C0:List ZC}{ks0:List Key}(hdst:∀o∈hd,o.dst.isSome=true):∀(os:List Oper) (i:Nat) {e e':Env} {ks:List Key} {L:List Loc} {C:List ZC} {T:List T3} {cs:List Value},hd.drop i=os->Ta.drop i=T->Trk hd Ta e0 i e->exec P ms ops n os e ks cs=some (e',L,C,T) ->
  L=ks.map (vX ms)->nI nw P ks->(∀k∈ks,k∈ks0)->(∀c∈C,c∈C0)->(∀j o,i<=j->hd[j]?=some o->Point nw P ms ops hd Ta e0 C0 ks0 j o)∧Trk hd Ta e0 hd.length e'
 | [],i,e,e',ks,L,C,T,cs,hos,hTa,ht,hx,hL,hk0,hks,hC=>by
  unfold exec at hx
  have hle:hd.length<=i:=by simpa using hos
  refine⟨λj o hij hj=>?_,?_⟩
  .have:=(List.getElem?_eq_some_iff.1 hj).1; omega
  .split at hx
   .simp only[azT,azW]at hx
    obtain⟨rfl,-⟩:=hx
    intro s x hs
    rcases ht s x hs with ⟨j,oj,hj,hoj,hdj,k,hTj⟩ | ⟨hno,h0⟩
    .exact .inl ⟨j,oj,(List.getElem?_eq_some_iff.1 hoj).1,hoj,hdj,k,hTj⟩
    .exact .inr ⟨λj oj hj hoj=>hno j oj Z hoj,h0⟩
   .cases hx
 | o::os,i,e,e',ks,L,C,T,cs,hos,hTa,ht,hx,hL,hk0,hks,hC=>by
  have ho:hd[i]?=some o:=by have:=az0 List.head? hos; simpa[List.head?_drop]using this
  have ah6:hd.drop (i+1)=os:=by have:=az0 List.tail hos; simpa[List.tail_drop]using this
  obtain⟨d,hd1⟩:=aAY.1 (hdst o (List.mem_of_getElem? ho))
  unfold exec at hx
  cases hp:pathOf ops e o with
  | none=>simp[hp]at hx
  | some p =>
   simp only[hp]at hx
   cases hpo:xM n e o.dst p with
   | false=>simp[hpo]at hx
   | true =>
    cases h1:Zx P ms e p ks o with
    | none=>simp[hpo,h1]at hx
    | some r =>
     obtain⟨r,ks',L1⟩:=r
     have go:∀v kk L' (C':List ZC) T' cs',exec P ms ops n os (put e o.dst p v) ks' cs'=some (e',L',C',T')->T=(jI e p,v,kk)::T'->L1++L'=ks.map (vX ms)->(∀c∈C',c∈C0) ->
       PtR r v kk (jI e p) o.dst (Sx.waits ops o) C0 ->
       (∀j o,i<=j->hd[j]?=some o->Point nw P ms ops hd Ta e0 C0 ks0 j o)∧Trk hd Ta e0 hd.length e':=by
      intro v kk L' C' T' cs' hx' hT hL' hC' hr
      subst hT
      obtain⟨hkl,hL2,hk2⟩:=vF h1 hL' hk0
      have hTi:Ta[i]?=some (jI e p,v,kk):=by have:=az0 List.head? hTa; simpa[List.head?_drop]using this
      have afN:Ta.drop (i+1)=T':=by have:=az0 List.tail hTa; simpa[List.tail_drop]using this
      have avJ:∀k∈ks',k∈ks0:=λk hk=>hks k (by obtain⟨kl,rfl,_⟩:=hkl; exact aBH _ hk)
      have hpt:Point nw P ms ops hd Ta e0 C0 ks0 i o:=⟨e,p,ks,ks',r,L1,v,kk,ht,hp,h1,hkl,hks,hTi,hr⟩
      rw[hd1]at hx' hpo
      have ih:=JJ hdst os (i+1) ah6 afN (ht.put ho hd1 hTi hpo) hx' hL2 hk2 avJ hC'
      refine⟨λj oj hij hj=>?_,ih.2⟩
      rcases aAH i j with hlt | hge
      .exact ih.1 j oj hlt hj
      .obtain rfl:j=i:=by omega
       rw[ho]at hj
       obtain rfl:=az1 hj
       exact hpt
     cases r with
     | val v =>
      simp only[hpo,h1]at hx
      cases hx':exec P ms ops n os (put e o.dst p v) ks' cs with
      | none=>simp[hx']at hx
      | some z =>
       obtain⟨e1,L',C',T'⟩:=z
       simp only[hx',azT,azW]at hx
       obtain⟨rfl,rfl,rfl,rfl⟩:=hx
       exact go v true _ _ _ _ hx' I hL hC ⟨I,I⟩
     | new =>
      simp only[hpo,h1]at hx
      cases cs with
      | nil=>simp at hx
      | cons v cs' =>
       simp only at hx
       cases hx':exec P ms ops n os (put e o.dst p v) ks' cs' with
       | none=>simp[hx']at hx
       | some z =>
        obtain⟨e1,L',C',T'⟩:=z
        simp only[hx',azT,azW]at hx
        obtain⟨rfl,rfl,rfl,rfl⟩:=hx
        exact go v false _ _ _ _ hx' I hL hC I
     | enter f args =>
      simp only[hpo,h1]at hx
      cases cs with
      | nil=>simp at hx
      | cons v cs' =>
       simp only at hx
       cases hx':exec P ms ops n os (put e o.dst p v) ks' cs' with
       | none=>simp[hx']at hx
       | some z =>
        obtain⟨e1,L',C',T'⟩:=z
        simp only[hx',azT,azW]at hx
        obtain⟨rfl,rfl,rfl,rfl⟩:=hx
        exact go v false _ _ _ _ hx' I hL (λc hc=>hC c (aA4 _ hc)) ⟨I,hC _ Y⟩
end
theorem Je{P:Program}{R:World->World->Prop}{C:World->Prop}{Q:Exit->Act->World->Prop}{a:Act}{w:World}{l:List Oper}(n:Nat)(A:List Nat)(hB:okB l.toArray n a.tmps.size=true)
  (Ts:List Fact) (hA:Als l.toArray Ts A) (hC0:C { w with drawn:=w.drawn+1 }) (hC:∀w w',C w->R w w'->C w') (hm:∀T∈Ts,∀v w w',R w w'->T v w->T v w')
  (hob:∀(i:Nat) o,i<n->l[i]?=some o->sO P l.toArray (l.take n) Ts R C a.eval o (Ts.getD i top))
  (hend:∀a' w',C w'->a'.defers=a.defers->a'.tmps.size=a.tmps.size->(∀(j:Nat) o,(l.take n)[j]?=some o->Ts.getD j top (Rel.valOf a'.eval o.dst) w')->Rel.Out (l.take n) a'.eval a.eval ->
   (∀i∈A,∀j∈A,i≠j->i<n->j<n->∀o1 o2,l.toArray[i]?=some o1->l.toArray[j]?=some o2->Rel.valOf a'.eval o1.dst≠Rel.valOf a'.eval o2.dst)->wpList P l.toArray Q (l.drop n) a' w') :
  wpAny P .any l.toArray Q l.toArray.size (Array.replicate l.toArray.size false) a { w with drawn:=w.drawn+1 }:=
 NS n hB (λ_=>R) C A 0 (λ_=>True) Ts hA hC0 G (λ_=>hC) (λ_ _ _ _ _ _=>G) (λj T hT i _=>hm T (List.mem_of_getElem? hT))
  (λi o hi ho=>(hob i o hi ho).cls λ_ h=>h.1) λa' w' hc hd hs hf ho ha=>hend a' w' hc hd hs hf (λt ht=>mV (ho t λj o hj hoj hdt=>by
   rw[aAr]at ht
   have h3:=ht o (List.mem_iff_getElem?.2 ⟨j,by rw[List.getElem?_take_of_lt hj]; simpa using hoj⟩)
   rw[hdt]at h3
   simp at h3)) ha
def abX(os:List Oper)(U:Ak)(base:Nat):List (Nat×Nat)->Prop
 | []=>True
 | p::r=>(∃o t cs,os[p.1]?=some o∧o.op = .alloc t∧o.dst=some p.2∧o.guard=none∧U.lookup p.2=some (iO base cs none))∧abX os U base r
theorem abX.mem{os:List Oper}{U:Ak}{base:Nat}:∀{A:List (Nat×Nat)},abX os U base A->∀p∈A,∃o t cs,os[p.1]?=some o∧o.op = .alloc t∧o.dst=some p.2∧o.guard=none∧U.lookup p.2=some (iO base cs none)
 | _::_,h,p,hp=>by
  rcases az2.1 hp with rfl | hp
  .exact h.1
  .exact abX.mem h.2 p hp
section
variable{P:Program}{Q:Exit->Act->World->Prop}{w0:World}{a:Act}{w:World}{os:List Oper}{n:Nat}{l:List (Nat×Value)}{bl:List (Nat×List Value)}{vs:List fD}
def clX(c:ClX):Cl×Option Nat:=((c.1,c.2.1,c.2.2.1,c.2.2.2.1),some c.2.2.2.2)
def UQ(hd:List Oper)(U:Ak):List ZC->List (List Nat)->Bool
 | [],_=>true
 | _::_,[]=>false
 | c::cs,s::ss=>s.all (λd=>c.2.2.contains d&&hd.any (λo=>o.dst==some d))&&UQ hd U cs ss
def XW(hd:List Oper)(U:Ak)(ns:List (List Nat))(new:List (Nat×Value))(r:Out):List (Option (qj×Value))×List Loc×List (Cl×Option Nat)×List T3×Bool:=
 (new.map (λp=>(r.1.lookup p.1).map (cl1 r.1)),r.2.1,r.2.2.1.map (λc=>(c.1,c.2.1)),r.2.2.2,UQ hd U r.2.2.1 ns)
def tv(r:Option Out):List T3:=match r with | some r=>r.2.2.2 | none=>[]
def patch(U:Ak)(x:Nat->Value):List Oper->List T3->List T3
 | o::os,t::ts=>pT U x o t::patch U x os ts
 | _,_=>[]
def xR(U:Ak):List Oper->List T3->List Fact
 | o::os,t::ts=>fx U o t::xR U os ts
 | _,_=>[]
theorem qm{U:Ak}{x:Nat->Value}:∀{hd:List Oper} {ts:List T3} {j:Nat} {o:Oper} {t:T3},hd[j]?=some o->(patch U x hd ts)[j]?=some t->∃t0,t=pT U x o t0∧(xR U hd ts)[j]?=some (fx U o t0)
 | [],_,j,o,t,h,_=>by simp at h
 | _::_,[],j,o,t,_,h=>by simp[patch]at h
 | o'::hd,t'::ts,j,o,t,h,h2=>by
  cases j with
  | zero =>
   simp only[List.getElem?_cons_zero,azT]at h
   subst h
   simp only[patch,List.getElem?_cons_zero,azT]at h2
   exact⟨t',h2.symm,I⟩
  | succ j=>exact qm (hd:=hd) (ts:=ts) (by simpa using h) (by simpa[patch]using h2)
theorem UR{U:Ak}(hU:CZ U):∀{hd:List Oper} {ts:List T3},∀T∈xR U hd ts,∀v w w',Ext w w'->T v w->T v w'
 | [],_,T,h=>by simp[xR]at h
 | _::_,[],T,h=>by simp[xR]at h
 | o::hd,t::ts,T,h=>by
  rcases az2.1 h with rfl | h
  .intro v w w' hE hT
   unfold fx at hT |-
   cases hd:o.dst with
   | none=>rw[hd]at hT; exact hT
   | some d =>
    rw[hd]at hT
    simp only at hT |-
    cases hl:U.lookup d with
    | none=>rw[hl]at hT; exact hT
    | some K =>
     rw[hl]at hT
     have key:∀{U:Ak},CZ U->U.lookup d=some K->∀v w w',Ext w w'->K v w->K v w':=by
      intro U
      induction U with
      | nil=>intro _ h; simp at h
      | cons p U ih =>
       intro hU h
       rw[aAG]at h
       split at h
       .obtain rfl:=az1 h; exact hU.1
       .exact ih hU.2 h
     exact key hU hl v w w' hE hT
  .exact UR hU T h
theorem afR{U:Ak}{x:Nat->Value}{hd:List Oper}{ts:List T3}{ρ:Operand->Value}{w:World}{e0 e:Env}{i:Nat}(hx:∀s K,U.lookup s=some K->K (ρ (.tmp s)) w->x s=ρ (.tmp s))(ht:Trk hd (patch U x hd ts) e0 i e){s:Nat}{y:qj×Value}(hl:e.lookup s=some y)
  (hin:∀j o,j<i->hd[j]?=some o->o.dst=some s->(xR U hd ts).getD j top (ρ (.tmp s)) w) (hout:(∀j o,j<i->hd[j]?=some o->o.dst≠some s)->e0.lookup s=some y->ρ (.tmp s)=den e y):ρ (.tmp s)=den e y:=by
 rcases ht s y hl with ⟨j,oj,hj,hoj,hdj,k,hTj⟩ | ⟨hno,h3⟩
 .obtain⟨t0,h1,h2⟩:=qm hoj hTj;have h3:=hin j oj hj hoj hdj;have e1:(xR U hd ts).getD j top=fx U oj t0:=by simp[List.getD,h2]
  rw[e1]at h3;unfold pT at h1;unfold fx at h3;rw[hdj]at h1 h3;simp only at h1 h3;cases hl:U.lookup s with
  | none =>
   rw[hl]at h1 h3;simp only at h1 h3;subst h1;exact h3
  | some K =>
   rw[hl]at h1 h3;simp only[azW]at h1;unfold den;rw[h1.1,h1.2.1,hx s K hl h3];rfl
 exact hout hno h3
theorem ZF{U:Ak}{x:Nat->Value}{w:World}{hd:List Oper}:∀{cl:List ClX} {ns:List (List Nat)} {C:List ZC},UL P w U x cl ns->C.map (λc=>(c.1,c.2.1))=cl.map clX->UQ hd U C ns=true->∀c∈C,∃d s,c.2.1=some d∧s.all (λd=>c.2.2.contains d&&hd.any (λo=>o.dst==some d))=true ∧
  ∀w',Ext w w'->c.1.2.2.1=true->nV U x w' s->Calls P c.1.1 c.1.2.1 w' (λe w''=>∃v,e = .returned v∧afP U d c.1.2.2.2 v w''∧Ext w' w'')
 | [],_,C,_,hm,_,c,hc=>by
  have:C=[]:=by simpa using hm
  subst this; cases hc
 | c'::cl,[],C,ho,_,_,c,hc=>ho.elim
 | c'::cl,s::ns,[],_,hm,_,c,hc=>by cases hc
 | c'::cl,s::ns,c0::C,ho,hm,hn,c,hc=>by
  simp only[aAE,aAp]at hm
  unfold UQ at hn
  rw[az7]at hn
  rcases az2.1 hc with rfl | hc
  .have h1:=hm.1
   unfold clX at h1
   simp only[azW]at h1
   refine⟨_,s,h1.2,hn.1,?_⟩
   rw[h1.1]
   exact ho.1
  .exact ZF ho.2 hm.2 hn.2 c hc
theorem JK{U:Ak}{x:Nat->Value}{w:World}:∀{s:List Nat},(∀d∈s,∀K,U.lookup d=some K->K (x d) w)->nV U x w s
 | [],_=>trivial
 | d::s,h=>⟨by
   cases hl:U.lookup d with
   | none=>trivial
   | some K=>exact h d Y K hl,JK λd' hd'=>h d' (by simp[hd'])⟩
theorem afS(T A:List (Nat×Nat))(S:St w0 a w n l bl vs)(m:Nat)(U:Ak)(ks:Nat->List Key)(cs:(Nat->Value)->List Value)(cl:(Nat->Value)->List ClX)(ns:List (List Nat))(new:(Nat->Value)->List (Nat×Value))
  (hU:CZ U) (hO:∀x,UL P w U x (cl x) ns)
  (next:∀a' w' y,Ext w w'->nV U (xT T y) w' (U.map (·.1))->(∀p∈A,∀q∈A,p.2≠q.2->xT T y p.2≠xT T y q.2)->St w0 a' w' n (new (xT T y)++l) bl vs->wpList P os.toArray Q (os.drop m) a' w')
  (hA:abX (os.take m) U w.heap.size A) (hN:∀r,NOk U w.heap.size r (ks r):=by intro r; exact G) (hk:∀r,nI True P (ks r):=by intro r; exact G)
  (hD0:(U.map (·.1)).all (λd=>(os.take m).any (λo=>o.dst==some d))=true:=by kernel_rfl)
  (hB:okB os.toArray m n=true:=by kernel_rfl) (hD:rV os.toArray (os.take m)=true:=by kernel_rfl)
  (hl:Hnd:=[]) (hH:∀x r,pG P w U T x os hl (ks r):=by intro x r; exact G) (hHK:∀r,xP os hl (ks r)=true:=by intro r; kernel_rfl) (hHB:JC os m U hl=true:=by kernel_rfl)
  (hT:∀p∈T,∀K,U.lookup p.1=some K->∀v w,K v w->∃a:Array Value,v = .tuple a∧a.size=p.2:=by intro p hp; cases hp) (hx:∀y r,(exec P (jJ bl vs) os.toArray n (os.take m) (lift l) (ks r) (cs (xT T y))).map (XW (os.take m) U ns (new (xT T y)))=some ((new (xT T y)).map (λp=>some ([],p.2)),(ks r).map (vX (jJ bl vs)),(cl (xT T y)).map clX,patch U (xT T y) (os.take m) (tv (exec P (jJ bl vs) os.toArray n (os.take m) (lift l) (ks 0) (cs λ_=>undef))),true):=by intro y r; kernel_rfl) (hs:∀y,rU (os.take m) l (new (xT T y))=true:=by intro y; kernel_rfl) (hn:(decide (n<=1000)&&(U.map (·.1)).all λd=>decide (d<n))=true:=by kernel_rfl):wpAny P .any os.toArray Q os.toArray.size (Array.replicate os.toArray.size false) a { w with drawn:=w.drawn+1 }:=by
 generalize hts:tv (exec P (jJ bl vs) os.toArray n (os.take m) (lift l) (ks 0) (cs λ_=>undef))=ts at hx;simp only[az7,az6]at hn;have hUn:∀s K,U.lookup s=some K->s<n:=λs K h=>by
  have:=aAr.1 hn.2 s (aAi.2 ⟨_,afQ h,I⟩);simpa using this
 have hxr:∀(ρ:Operand->Value) (w':World) (s:Nat) K,s<n->U.lookup s=some K->K (ρ (.tmp s)) w'->xT T (yOf ρ) s=ρ (.tmp s):=λρ w' s K hs hK hk=>aqz Z λm hm=>hT (s,m) (afQ hm) K hK _ _ hk;have hsz:=S.s.size;have ok:=acH hB;have hops:∀(j:Nat) o,(os.take m)[j]?=some o->os.toArray[j]?=some o:=λj o h=>by
  rw[List.getElem?_take]at h;split at h
  .simpa using h
  cases h
 have hdst:∀o∈os.take m,o.dst.isSome=true:=by
  intro o ho;obtain⟨j,hj⟩:=List.getElem?_of_mem ho;unfold rV at hD;rw[aAr]at hD;have:=hD _ (yF hj);simp only[az7]at this;exact this.1
 have hl0:∀s y,(lift l).lookup s=some y->y.1=[]∧a.eval (.tmp s)=y.2:=by
  intro s y hy;rw[jK]at hy;cases hl:l.lookup s with
  | none=>simp[hl]at hy
  | some v=>simp only[hl,aAF,azT]at hy; rw[<-hy]; exact⟨I,S.s.has s v hl⟩
 have trace:∀y r,∃e' C,C.map (λc=>(c.1,c.2.1))=(cl (xT T y)).map clX∧UQ (os.take m) U C ns=true∧(∀i v,(new (xT T y)).lookup i=some v->∃q,e'.lookup i=some (q,v)∧jI e' q=true) ∧
   (∃L TT,exec P (jJ bl vs) os.toArray n (os.take m) (lift l) (ks r) (cs (xT T y))=some (e',L,C,TT)) ∧
   (∀j o,(os.take m)[j]?=some o->Point True P (jJ bl vs) os.toArray (os.take m) (patch U (xT T y) (os.take m) ts) (lift l) C (ks r) j o)∧Trk (os.take m) (patch U (xT T y) (os.take m) ts) (lift l) (os.take m).length e':=by
  intro y r
  have h:=hx y r
  generalize xT T y=x at h |-
  cases hr:exec P (jJ bl vs) os.toArray n (os.take m) (lift l) (ks r) (cs x)with
  | none=>rw[hr]at h; simp at h
  | some z =>
   obtain⟨e',L,C,TT⟩:=z
   rw[hr]at h
   simp only[aAF,XW,azT,azW]at h
   obtain⟨h1,rfl,h3,rfl,h5⟩:=h
   have hp:=JJ (nw:=True) (C0:=C) (ks0:=ks r) hdst (os.take m) 0 I (aCl ..) (λs y hy => .inr ⟨λj o hj=>by omega,hy⟩) hr I (hk r) (λk hk=>hk) (λc hc=>hc)
   refine⟨e',C,h3,h5,λi v hl=>?_,⟨_,_,I⟩,λj o hj=>hp.1 j o (azZ _) hj,hp.2⟩
   have hm:(i,v)∈new x:=by
    clear h1 h3 h5 hp
    generalize new x=nx at hl |-
    induction nx with
    | nil=>simp at hl
    | cons p nx ih =>
     rw[aAG]at hl
     by_cases hi:i=p.1
     .subst hi
      simp only[aBB,azT]at hl
      subst hl; simp
     .have e1:(i==p.1)=false:=by simpa using hi
      rw[e1]at hl
      exact aA4 _ (ih hl)
   have:=List.map_inj_left.1 h1 (i,v) hm
   simp only[Option.map_eq_some_iff]at this
   obtain⟨y,h6,h7⟩:=this
   obtain⟨h8,h9⟩:=afO h7
   exact⟨y.1,by rw[h6,<-h8],h9⟩
 have D9:∀(ρ:Operand->Value) (w':World) (o:Oper),Rel.QL os.toArray (xR U (os.take m) ts) ρ w' o.after.toList->∀g∈o.after.toList,Region.binds .any g=true->∀o',(os.take m)[g.on]?=some o'->(xR U (os.take m) ts).getD g.on top (Rel.valOf ρ o'.dst) w':=by
  intro ρ w' o hd g hg hb o' ho';have key:∀es:List Edge,Rel.QL os.toArray (xR U (os.take m) ts) ρ w' es->∀g∈es,Region.binds .any g=true->(xR U (os.take m) ts).getD g.on top (Rel.valOf ρ ((os.toArray[g.on]?).bind (·.dst))) w':=by
   intro es;induction es with
   | nil=>intro _ g hg; cases hg
   | cons x es ih =>
    intro h g hg hb;rcases az2.1 hg with rfl | hg
    .exact h.1 hb
    exact ih h.2 g hg hb
  have:=key _ hd g hg hb;rwa [hops _ _ ho',aBP]at this
 have hal:∀p∈A,∃o t cs,(os.take m)[p.1]?=some o∧o.op = .alloc t∧o.dst=some p.2∧o.guard=none∧U.lookup p.2=some (iO w.heap.size cs none)∧(xR U (os.take m) ts).getD p.1 top=iO w.heap.size cs none:=by
  intro p hp;obtain⟨o,t,cs,h1,h2,h3,h4,h5⟩:=hA.mem p hp;obtain⟨e',C,_,_,_,_,hpt,_⟩:=trace (λ_=>undef) 0;obtain⟨_,_,_,_,_,_,_,_,_,_,_,_,_,hTi,_⟩:=hpt _ _ h1;obtain⟨t0,_,hfx⟩:=qm h1 hTi;refine⟨o,t,cs,h1,h2,h3,h4,h5,?_⟩;simp[List.getD,hfx,fx,h3,h5]
 have hAl:Als os.toArray (xR U (os.take m) ts) (A.map (·.1)):=by
  intro i hi;obtain⟨p,hp,rfl⟩:=aAi.1 hi;obtain⟨o,t,cs,h1,h2,h3,h4,h5,h6⟩:=hal p hp;refine⟨λo2 ho2=>?_,λu w2 hu=>?_⟩
  .rw[hops _ _ h1]at ho2;obtain rfl:=az1 ho2;exact⟨t,_,h2,h3,h4⟩
  rw[h6]at hu;obtain⟨b,rfl,-,hb⟩:=hu;exact⟨b,I,hb.1⟩
 refine Je m (A.map (·.1)) (by rw[hsz]; exact hB) (R:=Ext) (C:=λw'=>Ext w w') (xR U (os.take m) ts) hAl (below_drewN (aAe _ _) 1) (λ_ _ h k=>K00 h k) (UR hU) ?_ ?_
 .intro i o hi ho ρ w' ah8 hOut hC Yh;have hoi:(os.take m)[i]?=some o:=by rw[List.getElem?_take_of_lt hi]; exact ho
  obtain⟨e',C,hC3,hC5,_,_,hpt,_⟩:=trace (yOf ρ) w'.heap.size;obtain⟨e,p,ks1,ks2,r,L1,v,k,ht,hp,h1,hkl,hks,hTi,hr⟩:=hpt i o hoi;obtain⟨t0,Gt,hfx⟩:=qm hoi hTi;have hget:(xR U (os.take m) ts).getD i top=fx U o t0:=by simp[List.getD,hfx]
  rw[hget];have afT:∀s∈slotsOf os.toArray o,ZE ((os.take m).map (·.dst)) i o.after.toList s=true:=by
   unfold rV at hD;rw[aAr]at hD;have:=hD _ (yF hoi);simp only[az7,aAr]at this;exact this.2
  have hrd:∀s∈slotsOf os.toArray o,ZB ρ e (.tmp s):=by
   intro s hs s' y hss hl;obtain rfl:=Operand.tmp.inj hss;refine afR (x:=xT T (yOf ρ)) (w:=w') (λs K hK hk=>hxr ρ w' s K (hUn s K hK) hK hk) ht hl (λj oj hj hoj hdj=>?_) λhno h3=>?_
   .have hdl:((os.take m).map (·.dst))[j]?=some (some s):=by rw[List.getElem?_map,hoj,aAF,hdj]
    obtain⟨_,g,hg,rfl,hb⟩:=yG (afT s hs) hdl;have:=D9 ρ w' o Yh g hg hb oj hoj;rw[hdj]at this;exact this
   have hall:(os.take m).all (λo => !(o.dst==some s))=true:=by
    rw[aAr];intro oj hoj;obtain⟨j,hj⟩:=List.getElem?_of_mem hoj;simp only[aBt,aAh];intro hdj;have hdl:((os.take m).map (·.dst))[j]?=some (some s):=by rw[List.getElem?_map,hj,aAF,hdj]
    obtain⟨hlt,_⟩:=yG (afT s hs) hdl;exact hno j oj hlt hj hdj
   obtain⟨h4,h5⟩:=hl0 s y h3;rw[hOut s hall,h5];unfold den;rw[h4]; rfl
  have hR:EO ρ e o:=by
   intro y hy;cases y with
   | tmp s =>
    refine hrd s (aBY _ ?_);rw[aBm];exact⟨.tmp s,by simpa using hy,I⟩
   | const _=>intro i y h; cases h
   | global _=>intro i y h; cases h
   | func _=>intro i y h; cases h
  have hds:=hdst o (List.mem_of_getElem? hoi);obtain⟨d,hd1⟩:=aAY.1 hds;have hmem':Mem w' (jJ bl vs):=S.JB.ext hC;have needs:∀s:List Nat,s.all (λq=>(Sx.waits os.toArray o).contains q&&(os.take m).any (λo=>o.dst==some q))=true->nV U (xT T (yOf ρ)) w' s:=by
   intro s hsub;refine JK λq hq K hK=>?_;rw[aAr]at hsub;have hq2:=hsub q hq;rw[az7]at hq2;have hq3:q∈Sx.waits os.toArray o:=by simpa using hq2.1
   unfold Sx.waits at hq3;rw[aBm]at hq3;obtain⟨g,hg2,hg3⟩:=hq3;split at hg3
   .rename_i hb;have hlt:g.on<m:=by
     have:=ok.back i o hi (by simpa using ho) g (by simpa using hg2) hb;omega
    have hlt2:g.on<os.length:=by have:=ok.le; simp at this; omega
    have ho':(os.take m)[g.on]?=some os[g.on]:=by rw[List.getElem?_take_of_lt hlt]; simp[hlt2]
    have hdq:os[g.on].dst=some q:=by
     have:os.toArray[g.on]?=some os[g.on]:=by simp[hlt2]
     rw[this]at hg3; exact hg3
    have h4:=D9 ρ w' o Yh g hg2 hb _ ho';rw[hdq]at h4;have h5:∃t,(xR U (os.take m) ts).getD g.on top=fx U os[g.on] t:=by
     obtain⟨e9,p9,ks9,ks8,r9,L9,v9,k9,_,_,_,_,_,hT9,_⟩:=hpt g.on _ ho';obtain⟨t9,_,h9⟩:=qm ho' hT9;exact⟨t9,by simp[List.getD,h9]⟩
    obtain⟨t,h5⟩:=h5;rw[h5]at h4;unfold fx at h4;rw[hdq]at h4;simp only[hK]at h4;rw[hxr ρ w' q K (hUn q K hK) hK h4];exact h4
   cases hg3
  have main:jI e p=true->Does P o ρ w' (λu w''=>Ext w' w''∧fx U o t0 (kept o u) w''):=by
   intro hG;have hg:=D8 h1 ah8 hR hG hmem' hkl;cases r with
   | val u =>
    obtain⟨rfl,rfl⟩:=hr;refine QO hg K01 ?_;rw[xQ hds];unfold pT at Gt;unfold fx;rw[hd1]at Gt |-;simp only at Gt |-;cases hl:U.lookup d with
    | some K=>rw[hl]at Gt; simp at Gt
    | none =>
     rw[hl]at Gt;simp only at Gt;rw[<-Gt];show u=_root_.cond (jI e p) u undef;rw[hG]; rfl
   | enter f args =>
    obtain⟨rfl,hmC⟩:=hr;obtain⟨d',s,hd2,hsub,hcall⟩:=ZF (hO _) hC3 hC5 _ hmC;simp only at hd2 hsub hcall;rw[hd1]at hd2;obtain rfl:=az1 hd2;refine Dp hg ((hcall w' hC hG (needs s hsub)).mono λe2 w2 hk2=>?_);obtain⟨u,rfl,hpost,hE⟩:=hk2;refine⟨u,I,hE,?_⟩;rw[xQ hds];unfold pT at Gt;unfold fx;unfold afP at hpost;rw[hd1]at Gt |-;simp only at Gt |-;cases hl:U.lookup d with
    | some K=>rw[hl]at hpost; exact hpost
    | none =>
     rw[hl]at hpost Gt;simp only at hpost Gt;rw[<-Gt];show u=_root_.cond (jI e p) v undef;rw[hG,hpost]; rfl
   | new =>
    rcases Qg (Qh h1)with ⟨d',A0,sh,r0,A,v',ty,kk,e1,hd2,rfl,hev,hv,hsel,aqA⟩ | ⟨d',kv,e1,hd2,rfl,hkv⟩
    .rw[hd1]at hd2;obtain rfl:=az1 hd2;have hin:Key.new d A0 sh r0∈ks w'.heap.size:=hks _ (by rw[e1]; simp);obtain⟨hr0,hlk⟩:=NOk.mem (hN _) hin;obtain⟨kl,e2,e3,_⟩:=hkl;have e4:kl=[.new d A0 sh r0]:=A8 (ks':=ks2) (by rw[<-e1]; exact e2);rw[e4]at e3;simp only[aAE,aA2,vX,aAp,and_true,Loc.new.injEq]at e3;obtain⟨rfl,rfl⟩:=e3;subst hr0;have hc:execOp ρ o=execOp (yP e p) o:=by
      refine execOp_congr o (λcs b e1=>by rw[e1]at hsel; cases hsel) λy hy=>?_;rw[aB7]at aqA;obtain⟨z,hz⟩:=aAY.1 (aqA y hy);rw[gX ah8 (hR y hy) hG hz];simp[yP,hz]
     have hrun:(execOp ρ o).run P w' = .ok (.value (shV sh w'.heap.size)) (w'.alloc (.cells A.toArray ty)):=by rw[hc,ni hev,nO hv]
     refine agh hrun (aF _ _) ?_;rw[xQ hds];unfold fx;rw[hd1];simp only[hlk];exact⟨w'.heap.size,I,hC.size,GY _ _ _⟩
    rw[hd1]at hd2;obtain rfl:=az1 hd2;have hin:Key.hand d kv∈ks w'.heap.size:=hks _ (by rw[e1]; simp);obtain⟨q,hq,Z9,hdo⟩:=(hH (xT T (yOf ρ)) w'.heap.size).get (hHK w'.heap.size) hin;have aqB:∀z∈kv,ρ (.tmp z.1)=z.2:=by
     obtain⟨kl,e2,e3,_⟩:=hkl;have e4:kl=[.hand d kv]:=A8 (ks':=ks2) (by rw[<-e1]; exact e2);rw[e4]at e3;simp only[aAE,aA2,vX,aAp,and_true,Loc.hand.injEq]at e3;intro z hz;exact gX ah8 (hR _ (hkv z hz)) hG (List.map_inj_left.1 e3 z hz)
    unfold JC at hHB;rw[aAr]at hHB;have h9:=hHB q hq;cases hoq:os[q.1]? with
    | none=>rw[hoq]at h9; cases h9
    | some o2 =>
     rw[hoq]at h9 Z9;have avK:o2.dst=some d:=Z9;simp only[avK,az7,aAr]at h9;obtain⟨⟨h10,h11⟩,h12⟩:=h9;have hqi:i=q.1:=by
      have:=h12 _ (yF hoi);simpa[hd1]using this
     have ho2:o2=o:=by rw[<-hqi,ho]at hoq; exact(az1 hoq).symm
     subst ho2;have h13:=hdo o2 hoq ρ w' ah8 hC (λs hs hl=>by unfold xT; rw[hl]; simp only; unfold yOf; rw[aA6 hs]) aqB (needs q.2 (by rw[aAr]; simpa using h11));obtain⟨K,hK⟩:=aAY.1 h10;unfold Does at h13 |-;refine h13.mono λu w'' hu=>⟨hu.1,?_⟩;have Ky:=hu.2;unfold hpost at Ky;unfold fx;rw[hd1]at Ky |-;simp only[hK]at Ky |-;exact Ky
  cases hg:o.guard with
  | none =>
   unfold pathOf at hp;rw[hg]at hp;obtain rfl:=az1 hp;exact main I
  | some gb =>
   obtain⟨g,b⟩:=gb;have hiff:Rel.valOf ρ ((os.toArray[g]?).bind (·.dst)) = .bool b↔jI e p=true:=by
    unfold pathOf at hp;rw[hg]at hp;simp only at hp;cases hs':(os.toArray[g]?).bind (·.dst)with
    | none=>rw[hs']at hp; cases hp
    | some s =>
     rw[hs']at hp;simp only at hp;have hR1:ZB ρ e (.tmp s):=hrd s (aBH _ (by rw[hg]; simp only; rw[hs']; exact aAn.2 I));cases hl:e.lookup s with
     | none=>simp[hl]at hp
     | some x =>
      obtain⟨q,u⟩:=x;have hv:=hR1 s _ I hl;cases u<;>simp only[hl]at hp<;>try (cases hp)
      rename_i t;show ρ (.tmp s)=_↔_;rw[hv,uj];unfold den tst;rw[hl];simp only;cases jI e q<;>cases b<;>cases t<;>simp[undef]
   refine⟨λhv=>main (hiff.1 hv),λhv=>?_⟩;have hGf:jI e p=false:=by
    cases h:jI e p with
    | false=>rfl
    | true=>exact absurd (hiff.2 h) hv
   unfold pT at Gt;unfold fx;rw[hd1]at Gt |-;simp only at Gt |-;cases hl:U.lookup d with
   | some K =>
    rw[hl]at Gt;simp only[azW]at Gt;rw[hGf]at Gt; cases Gt.1
   | none =>
    rw[hl]at Gt;simp only at Gt;rw[<-Gt];show undef=_root_.cond (jI e p) v undef;rw[hGf]; rfl
 intro a' w' hC hd' hsz' hfact hOut hap;obtain⟨e',C,hC3,hC5,hnew,⟨L,TT,hex⟩,hpt,htr⟩:=trace (yOf a'.eval) 0;have hH:Holds a'.eval e':=by
  intro s y hl;refine afR (x:=xT T (yOf a'.eval)) (w:=w') (λs K hK hk=>hxr a'.eval w' s K (hUn s K hK) hK hk) htr hl (λj oj hj hoj hdj=>?_) λhno h3=>?_
  .have:=hfact j oj hoj;rw[hdj]at this;exact this
  have hall:(os.take m).all (λo => !(o.dst==some s))=true:=by
   rw[aAr];intro oj hoj;obtain⟨j,hj⟩:=List.getElem?_of_mem hoj;simp only[aBt,aAh];exact hno j oj (List.getElem?_eq_some_iff.1 hj).1 hj
  obtain⟨h4,h5⟩:=hl0 s y h3;rw[hOut s hall,h5];unfold den;rw[h4]; rfl
 refine next a' w' (yOf a'.eval) hC (JK λd hdm K hK=>?_) (λp hp q hq hne=>?_) ((S.grow hC).act (Gs hex hnew (hs _) (by rw[hsz',hsz]) (by rw[hd',S.s.defers]) hH))
 .rw[aAr]at hD0;have:=hD0 d hdm;rw[List.any_eq_true]at this;obtain⟨o,ho,hdo⟩:=this;have avL:o.dst=some d:=by simpa using hdo
  obtain⟨j,hj⟩:=List.getElem?_of_mem ho;have h4:=hfact j o hj;obtain⟨e9,p9,ks9,ks8,r9,L9,v9,k9,_,_,_,_,_,hT9,_⟩:=hpt j o hj;obtain⟨t9,_,h9⟩:=qm hj hT9;have h5:(xR U (os.take m) ts).getD j top=fx U o t9:=by simp[List.getD,h9]
  rw[h5]at h4;unfold fx at h4;rw[avL]at h4;simp only[hK]at h4;rw[hxr a'.eval w' d K (hUn d K hK) hK h4];exact h4
 obtain⟨o1,t1,c1,h1,h2,h3,h4,h5,h6⟩:=hal p hp;obtain⟨o2,t2,c2,k1,k2,k3,k4,k5,k6⟩:=hal q hq;have f1:=hfact _ _ h1;have f2:=hfact _ _ k1;rw[h6,h3]at f1;rw[k6,k3]at f2;rw[hxr a'.eval w' p.2 _ (hUn _ _ h5) h5 f1,hxr a'.eval w' q.2 _ (hUn _ _ k5) k5 f2];have lt:∀{i:Nat} {o:Oper},(os.take m)[i]?=some o->i<m:=λh=>by
  have:=(List.getElem?_eq_some_iff.1 h).1;simp at this; omega
 have h7:=hap p.1 (aAi.2 ⟨p,hp,I⟩) q.1 (aAi.2 ⟨q,hq,I⟩) (λe=>by
  rw[e]at h1;rw[k1]at h1;obtain rfl:=az1 h1;rw[h3]at k3;exact hne (az1 k3)) (lt h1) (lt k1) o1 o2 (hops _ _ h1) (hops _ _ k1)
 rw[h3,k3]at h7;exact h7
theorem amy(T:List (Nat×Nat))(S:St w0 a w n l bl vs)(m:Nat)(U:Ak)(ks:Nat->List Key)(cs:(Nat->Value)->List Value)(cl:(Nat->Value)->List ClX)(ns:List (List Nat))(new:(Nat->Value)->List (Nat×Value))
  (hU:CZ U) (hO:∀x,UL P w U x (cl x) ns)
  (next:∀a' w' y,Ext w w'->nV U (xT T y) w' (U.map (·.1))->St w0 a' w' n (new (xT T y)++l) bl vs->wpList P os.toArray Q (os.drop m) a' w')
  (hN:∀r,NOk U w.heap.size r (ks r):=by intro r; exact G) (hk:∀r,nI True P (ks r):=by intro r; exact G)
  (hD0:(U.map (·.1)).all (λd=>(os.take m).any (λo=>o.dst==some d))=true:=by kernel_rfl)
  (hB:okB os.toArray m n=true:=by kernel_rfl) (hD:rV os.toArray (os.take m)=true:=by kernel_rfl)
  (hl:Hnd:=[]) (hH:∀x r,pG P w U T x os hl (ks r):=by intro x r; exact G) (hHK:∀r,xP os hl (ks r)=true:=by intro r; kernel_rfl) (hHB:JC os m U hl=true:=by kernel_rfl)
  (hT:∀p∈T,∀K,U.lookup p.1=some K->∀v w,K v w->∃a:Array Value,v = .tuple a∧a.size=p.2:=by intro p hp; cases hp) (hx:∀y r,(exec P (jJ bl vs) os.toArray n (os.take m) (lift l) (ks r) (cs (xT T y))).map (XW (os.take m) U ns (new (xT T y)))=some ((new (xT T y)).map (λp=>some ([],p.2)),(ks r).map (vX (jJ bl vs)),(cl (xT T y)).map clX,patch U (xT T y) (os.take m) (tv (exec P (jJ bl vs) os.toArray n (os.take m) (lift l) (ks 0) (cs λ_=>undef))),true):=by intro y r; kernel_rfl) (hs:∀y,rU (os.take m) l (new (xT T y))=true:=by intro y; kernel_rfl) (hn:(decide (n<=1000)&&(U.map (·.1)).all λd=>decide (d<n))=true:=by kernel_rfl):wpAny P .any os.toArray Q os.toArray.size (Array.replicate os.toArray.size false) a { w with drawn:=w.drawn+1 }:=
 afS T [] S m U ks cs cl ns new hU hO (λa' w' y h1 h2 _ h3=>next a' w' y h1 h2 h3) G hN hk hD0 hB hD hl hH hHK hHB hT hx hs hn
theorem ajP(A:List (Nat×Nat))(S:St w0 a w n l bl vs)(m:Nat)(U:Ak)(ks:Nat->List Key)(cs:(Nat->Value)->List Value)(cl:(Nat->Value)->List ClX)(ns:List (List Nat))(new:(Nat->Value)->List (Nat×Value))
  (hU:CZ U) (hO:∀x,UL P w U x (cl x) ns)
  (next:∀a' w' x,Ext w w'->nV U x w' (U.map (·.1))->(∀p∈A,∀q∈A,p.2≠q.2->x p.2≠x q.2)->St w0 a' w' n (new x++l) bl vs->wpList P os.toArray Q (os.drop m) a' w')
  (hA:abX (os.take m) U w.heap.size A) (hN:∀r,NOk U w.heap.size r (ks r):=by intro r; exact G) (hk:∀r,nI True P (ks r):=by intro r; exact G)
  (hD0:(U.map (·.1)).all (λd=>(os.take m).any (λo=>o.dst==some d))=true:=by kernel_rfl)
  (hB:okB os.toArray m n=true:=by kernel_rfl) (hD:rV os.toArray (os.take m)=true:=by kernel_rfl)
  (hl:Hnd:=[]) (hH:∀x r,pG P w U [] x os hl (ks r):=by intro x r; exact G) (hHK:∀r,xP os hl (ks r)=true:=by intro r; kernel_rfl) (hHB:JC os m U hl=true:=by kernel_rfl)
  (hx:∀y r,(exec P (jJ bl vs) os.toArray n (os.take m) (lift l) (ks r) (cs y)).map (XW (os.take m) U ns (new y))=some ((new y).map (λp=>some ([],p.2)),(ks r).map (vX (jJ bl vs)),(cl y).map clX,patch U y (os.take m) (tv (exec P (jJ bl vs) os.toArray n (os.take m) (lift l) (ks 0) (cs λ_=>undef))),true):=by intro y r; kernel_rfl) (hs:∀y,rU (os.take m) l (new y)=true:=by intro y; kernel_rfl) (hn:(decide (n<=1000)&&(U.map (·.1)).all λd=>decide (d<n))=true:=by kernel_rfl):wpAny P .any os.toArray Q os.toArray.size (Array.replicate os.toArray.size false) a { w with drawn:=w.drawn+1 }:=
 afS [] A S m U ks cs cl ns new hU hO next hA hN hk hD0 hB hD hl hH hHK hHB (λp hp=>by cases hp) hx hs hn
theorem qJ(S:St w0 a w n l bl vs)(m:Nat)(U:Ak)(ks:Nat->List Key)(cs:(Nat->Value)->List Value)(cl:(Nat->Value)->List ClX)(ns:List (List Nat))(new:(Nat->Value)->List (Nat×Value))
  (hU:CZ U) (hO:∀x,UL P w U x (cl x) ns)
  (next:∀a' w' x,Ext w w'->nV U x w' (U.map (·.1))->St w0 a' w' n (new x++l) bl vs->wpList P os.toArray Q (os.drop m) a' w')
  (hN:∀r,NOk U w.heap.size r (ks r):=by intro r; exact G) (hk:∀r,nI True P (ks r):=by intro r; exact G)
  (hD0:(U.map (·.1)).all (λd=>(os.take m).any (λo=>o.dst==some d))=true:=by kernel_rfl)
  (hB:okB os.toArray m n=true:=by kernel_rfl) (hD:rV os.toArray (os.take m)=true:=by kernel_rfl)
  (hl:Hnd:=[]) (hH:∀x r,pG P w U [] x os hl (ks r):=by intro x r; exact G) (hHK:∀r,xP os hl (ks r)=true:=by intro r; kernel_rfl) (hHB:JC os m U hl=true:=by kernel_rfl)
  (hx:∀y r,(exec P (jJ bl vs) os.toArray n (os.take m) (lift l) (ks r) (cs y)).map (XW (os.take m) U ns (new y))=some ((new y).map (λp=>some ([],p.2)),(ks r).map (vX (jJ bl vs)),(cl y).map clX,patch U y (os.take m) (tv (exec P (jJ bl vs) os.toArray n (os.take m) (lift l) (ks 0) (cs λ_=>undef))),true):=by intro y r; kernel_rfl) (hs:∀y,rU (os.take m) l (new y)=true:=by intro y; kernel_rfl) (hn:(decide (n<=1000)&&(U.map (·.1)).all λd=>decide (d<n))=true:=by kernel_rfl):wpAny P .any os.toArray Q os.toArray.size (Array.replicate os.toArray.size false) a { w with drawn:=w.drawn+1 }:=
 amy [] S m U ks cs cl ns new hU hO next hN hk hD0 hB hD hl hH hHK hHB (λp hp=>by cases hp) hx hs hn
theorem zB(S:St w0 a w n l bl vs){id:Nat}(m:Nat)(U:Ak)(ks:Nat->List Key)(cs:(Nat->Value)->List Value)(cl:(Nat->Value)->List ClX)(ns:List (List Nat))(new:(Nat->Value)->List (Nat×Value))
  (hU:CZ U) (hO:∀x,UL P w U x (cl x) ns)
  (next:∀a' w' x,Ext w w'->nV U x w' (U.map (·.1))->St w0 a' w' n (new x++l) bl vs->wpList P os.toArray Q (os.drop m) a' w')
  (hN:∀r,NOk U w.heap.size r (ks r):=by intro r; exact G) (hk:∀r,nI True P (ks r):=by intro r; exact G)
  (hD0:(U.map (·.1)).all (λd=>(os.take m).any (λo=>o.dst==some d))=true:=by kernel_rfl)
  (hmo:P.follows .mixedOrders=true:=by kernel_rfl) (hB:okB os.toArray m n=true:=by kernel_rfl) (hD:rV os.toArray (os.take m)=true:=by kernel_rfl)
  (hl:Hnd:=[]) (hH:∀x r,pG P w U [] x os hl (ks r):=by intro x r; exact G) (hHK:∀r,xP os hl (ks r)=true:=by intro r; kernel_rfl) (hHB:JC os m U hl=true:=by kernel_rfl)
  (hx:∀y r,(exec P (jJ bl vs) os.toArray n (os.take m) (lift l) (ks r) (cs y)).map (XW (os.take m) U ns (new y))=some ((new y).map (λp=>some ([],p.2)),(ks r).map (vX (jJ bl vs)),(cl y).map clX,patch U y (os.take m) (tv (exec P (jJ bl vs) os.toArray n (os.take m) (lift l) (ks 0) (cs λ_=>undef))),true):=by intro y r; kernel_rfl) (hs:∀y,rU (os.take m) l (new y)=true:=by intro y; kernel_rfl) (hn:(decide (n<=1000)&&(U.map (·.1)).all λd=>decide (d<n))=true:=by kernel_rfl):(Code.region id os.toArray true).wp P Q a w:=
 aBW hmo (qJ S m U ks cs cl ns new hU hO next hN hk hD0 hB hD hl hH hHK hHB hx hs hn)
end
end Go.Sx
theorem azk:type_of% @Go.Sx.rn:=@Go.Sx.rn
theorem azl:type_of% @Go.Sx.done:=@Go.Sx.done
theorem azn:type_of% @Go.Sx.bG:=@Go.Sx.bG
theorem azr:type_of% @Go.Sx.aK:=@Go.Sx.aK
theorem azA:type_of% @Go.Sx.wrap_succ:=@Go.Sx.wrap_succ
theorem azL:type_of% @Go.Sx.same:=@Go.Sx.same
theorem azM:type_of% @Go.Sx.cond:=@Go.Sx.cond
theorem azR:type_of% @Go.Sx.store:=@Go.Sx.store
theorem azX:type_of% @Go.Sx.enter:=@Go.Sx.enter
theorem azY:type_of% @Go.Sx.store1:=@Go.Sx.store1
theorem aAP:type_of% @Go.Sx.fQ:=@Go.Sx.fQ
