/- The walk by reckoning: what an -/
import Derived.Test.YtodpgjjgaddkeaaGreatDoorSx
import Derived.KernelRfl
set_option linter.unusedVariables false
set_option linter.unusedSimpArgs false
set_option maxHeartbeats 9999999
open Go renaming World->Á,Value->À,Calls->Ä,Program->Ø,Oper->Ì,wpList->Ð,TypeId->á,execOp->Ù,Operand->ö,Ending->Ļ,wpAny->ď,bodyPost->Ī
namespace Go.Sx
open Go.Proofs.Pv Go.RowKit Go.Rel Go.Vp
structure St (w0:Á) (a:Act) (w:Á) (n:Nat) (l:List (Nat×À)) (bl:List (Nat×List À)) (vs:List eU):Prop where
 s:Vp.St a n l
 E:Ext w0 w
 own:∀p∈bl,Bx w p.1 p.2.toArray∧w0.heap.size<=p.1
 apart:(bl.map (·.1)).Nodup
 mem:∀m∈vs,(m.1<w.heap.size∧w.rangeAt m.1 m.2.1 m.2.2)∧∀p∈bl,p.1≠m.1
def jO(bl:List (Nat×List À))(vs:List eU):List eU:=bl.map (λp=>(p.1,0,p.2))++vs
def lift(l:List (Nat×À)):Env:=l.map λp=>(p.1,[],p.2)
section
variable{P:Ø}{ops:Array Ì}{Q:Exit->Act->Á->Prop}{w0:Á}{a:Act}{w:Á}{os:List Ì}{n:Nat}{l:List (Nat×À)}{bl:List (Nat×List À)}{vs:List eU}
abbrev St.JJ(S:St w0 a w n l bl vs):Mem w (jO bl vs):=by
 intro m hm;rcases đ.1 hm with h | h
 .obtain⟨p,hp,rfl⟩:=Ć.1 h;have:=(S.own p hp).1;exact⟨this.1,λj v hj=>by
   show w.cell? ⟨p.1,0+j,none⟩=some v;rw[Ĳ,this.2.1]; simpa using hj⟩
 exact(S.mem m h).1
variable{b r off k s:Nat}{v V u:À}{A cs:List À}{f:FuncId}{args:Array À}{y x:Code}{c:ö}{ty:á}{ks:List Key}{o:Ì}{os':List Ì}{w1:Á}
abbrev jm(l:List (Nat×À))(i:Nat):(lift l).lookup i=(l.lookup i).map λv=>([],v):=by
 induction l with
 | nil=>rfl
 | cons p l ih =>
  show List.lookup i ((p.1,[],p.2)::lift l)=_;rw[ġ,ġ];cases i==p.1
  .exact ih
  rfl
abbrev bU(h:Vp.St a n l):Holds a.eval (lift l):=by
 intro i x hx;rw[jm]at hx;cases hl:l.lookup i with
 | none=>simp[hl]at hx
 | some v =>
  simp only[hl,Ę,Ò]at hx;subst hx;rw[h.has i v hl]; rfl
abbrev St.grow{w':Á}(S:St w0 a w n l bl vs)(hE:Ext w w'):St w0 a w' n l bl vs:=
 ⟨S.s,Ã S.E hE,λp hp=>⟨(S.own p hp).1.ext hE,(S.own p hp).2⟩,S.apart,λm hm =>
  ⟨⟨ā (S.mem m hm).1.1 hE.size,qG (S.mem m hm).1.2 (S.mem m hm).1.1 hE⟩,(S.mem m hm).2⟩⟩
abbrev St.act{a':Act}{l':List (Nat×À)}(S:St w0 a w n l bl vs)(h:Vp.St a' n l'):St w0 a' w n l' bl vs:=⟨h,S.E,S.own,S.apart,S.mem⟩
def cl1(e:Env)(x:qJ×À):qJ×À:=match x.1 with | []=>x | q=>(match jL e q with | true=>([],x.2) | false=>x)
abbrev agz{e:Env}{x:qJ×À}(h:cl1 e x=([],v)):x.2=v∧jL e x.1=true:=by
 obtain⟨q,u⟩:=x;cases q with
 | nil =>
  have h:(([],u):qJ×À)=([],v):=h;simp only[Ô,true_and]at h;exact⟨h,I⟩
 | cons c r =>
  unfold cl1 at h;simp only at h;split at h
  .rename_i hg;simp only[Ô,true_and]at h;exact⟨h,hg⟩
  simp at h
def fin(new:List (Nat×À))(r:Out):List (Option (qJ×À))×List Loc×List Cl:=(new.map (λp=>(r.1.lookup p.1).map (cl1 r.1)),r.2.1,r.2.2.1.map (·.1))
def runs(P:Ø)(ms:List eU)(ops:Array Ì)(n:Nat)(os:List Ì)(l:List (Nat×À))(ks:List Key)(cs:List À)(new:List (Nat×À)):=(exec P ms ops n os (lift l) ks cs).map (fin new)
def wants(ms:List eU)(ks:List Key)(cl:List Cl)(new:List (Nat×À)):Option (List (Option (qJ×À))×List Loc×List Cl):=some (new.map (λp=>some ([],p.2)),ks.map (wJ ms),cl)
def sF(os:List Ì)(l new:List (Nat×À)):Bool:=os.all λo=>match o.dst with | some d=>(new.lookup d).isSome||(l.lookup d).isNone | none=>true
theorem y7{P:Ø}{ms:List eU}{ops:Array Ì}{n:Nat}{i:Nat}:∀(os:List Ì) {e e':Env} {ks:List Key} {L:List Loc} {C:List ZI} {T:List T3} {cs:List À},
  exec P ms ops n os e ks cs=some (e',L,C,T)->(∀o∈os,o.dst≠some i)->e'.lookup i=e.lookup i
 | [],e,e',ks,L,C,T,cs,hx,_=>by
  unfold exec at hx
  split at hx
  .simp only[Ò,Ô]at hx
   rw[hx.1]
  .cases hx
 | o::os,e,e',ks,L,C,T,cs,hx,hno=>by
  unfold exec at hx
  cases hp:pathOf ops e o with
  | none=>simp[hp]at hx
  | some p =>
   simp only[hp]at hx
   have hput:∀v,(put e o.dst p v).lookup i=e.lookup i:=by
    intro v
    have:=hno o Y
    cases hd:o.dst with
    | none=>rfl
    | some d =>
     have hne:(i==d)=false:=by
      rw[hd]at this
      simp only[ne_eq,Ò]at this
      simpa using λh:i=d=>this h.symm
     simp only[put,ġ,hne]
   split at hx
   .split at hx
    .rename_i v ks' L1 _ _ _ _ _ _ hx'
     simp only[Ò,Ô]at hx
     obtain⟨rfl,-⟩:=hx
     rw[y7 os hx' λo ho=>hno o (by simp[ho]),hput]
    .cases hx
   .split at hx
    .split at hx
     .rename_i hx'
      simp only[Ò,Ô]at hx
      obtain⟨rfl,-⟩:=hx
      rw[y7 os hx' λo ho=>hno o (by simp[ho]),hput]
     .cases hx
    .cases hx
   .split at hx
    .split at hx
     .rename_i hx'
      simp only[Ò,Ô]at hx
      obtain⟨rfl,-⟩:=hx
      rw[y7 os hx' λo ho=>hno o (by simp[ho]),hput]
     .cases hx
    .cases hx
   .cases hx
abbrev ED{ms:List eU}{cl:List Cl}{new:List (Nat×À)}(h:runs P ms ops n os l ks cs new=wants ms ks cl new) :
  ∃e' T C,exec P ms ops n os (lift l) ks cs=some (e',ks.map (wJ ms),C,T)∧C.map (·.1)=cl∧∀i v,new.lookup i=some v->∃q,e'.lookup i=some (q,v)∧jL e' q=true:=by
 unfold runs wants at h;cases hx:exec P ms ops n os (lift l) ks cs with
 | none=>simp[hx]at h
 | some r =>
  obtain⟨e',L,C,T⟩:=r;simp only[hx,Ę,fin,Ò,Ô]at h;obtain⟨h1,rfl,rfl⟩:=h;refine⟨e',T,C,I,I,λi v hl=>?_⟩;have hm:(i,v)∈new:=by
   clear h1;induction new with
   | nil=>simp at hl
   | cons p new ih =>
    rw[ġ]at hl;by_cases hi:i=p.1
    .subst hi;simp only[Ŷ,Ò]at hl;subst hl; simp
    have e1:(i==p.1)=false:=by simpa using hi
    rw[e1]at hl;exact Ŋ _ (ih hl)
  have:=azj.1 h1 (i,v) hm;simp only[Option.map_eq_some_iff]at this;obtain⟨x,h3,h4⟩:=this;obtain⟨h5,h6⟩:=agz h4;exact⟨x.1,by rw[h3,<-h5],h6⟩
abbrev Ya{new:List (Nat×À)}{i:Nat}(h:(new++l).lookup i=some v):new.lookup i=some v∨(new.lookup i=none∧l.lookup i=some v):=by
 induction new with
 | nil=>exact .inr ⟨I,h⟩
 | cons p new ih =>
  rw[ō,ġ]at h;rw[ġ];cases hi:i==p.1
  .rw[hi]at h; exact ih h
  rw[hi]at h; exact .inl h
abbrev G6{ms:List eU}{e':Env}{L:List Loc}{C:List ZI}{T:List T3}{new:List (Nat×À)}(hx:exec P ms ops n os (lift l) ks cs=some (e',L,C,T))(hn:∀i v,new.lookup i=some v->∃q,e'.lookup i=some (q,v)∧jL e' q=true)(hk:sF os l new=true)
  {a':Act} (hsz:a'.tmps.size=n) (hd:a'.defers=[]) (hh:Holds a'.eval e'):Vp.St a' n (new++l):=by
 refine⟨hsz,hd,λi v hl=>?_⟩;rcases Ya hl with h | ⟨h1,h2⟩
 .obtain⟨q,h3,h4⟩:=hn i v h;rw[hh i _ h3];show _root_.cond (jL e' q) v undef=v;rw[h4]; rfl
 have:∀o∈os,o.dst≠some i:=by
  intro o ho hd;unfold sF at hk;rw[ø]at hk;have:=hk o ho;rw[hd]at this;simp[h1,h2]at this
 have e1:=y7 (i:=i) os hx this;rw[jm,h2]at e1;rw[hh i _ e1]; rfl
abbrev run(S:St w0 a w n l bl vs)(k:Nat)(ks:List Key)(new:List (Nat×À))(next:∀a',St w0 a' w n (new++l) bl vs->Ð P ops Q (os.drop k) a' w)(hk:zG P ks:=by exact G)
  (hx:runs P (jO bl vs) ops n (os.take k) l ks [] new=wants (jO bl vs) ks [] new:=by kernel_rfl) (hs:sF (os.take k) l new=true:=by kernel_rfl):Ð P ops Q os a w:=by
 obtain⟨e',T,C,h1,hcl,h2⟩:=ED hx;rw[<-ň k os];obtain rfl:C=[]:=by simpa using hcl
 refine Ql _ h1 S.s.size (bU S.s) S.JJ I hk G λa' w' _ hC hsz hd hh=>?_;obtain rfl:=hC I;exact next a' (S.act (G6 h1 h2 hs hsz (by rw[hd,S.s.defers]) hh))
abbrev ac0(S:St w0 a w n l bl vs)(k:Nat)(ks:List Key)(cl:List Cl)(new:List (Nat×À))(hO:Ζ P w cl)(next:∀a' w',Ext w w'->St w0 a' w' n (new++l) bl vs->Ð P ops Q (os.drop k) a' w')(hk:zG P ks:=by exact G)
  (hx:runs P (jO bl vs) ops n (os.take k) l ks (cl.map (·.2.2.2)) new=wants (jO bl vs) ks cl new:=by kernel_rfl) (hs:sF (os.take k) l new=true:=by kernel_rfl):Ð P ops Q os a w:=by
 obtain⟨e',T,C,h1,hcl,h2⟩:=ED hx;rw[<-ň k os];rw[<-hcl]at hO;refine Ql _ h1 S.s.size (bU S.s) S.JJ I hk hO λa' w' hE _ hsz hd hh=>?_;exact next a' w' hE ((S.grow hE).act (G6 h1 h2 hs hsz (by rw[hd,S.s.defers]) hh))
abbrev draw(S:St w0 a w n l bl vs){id:Nat}(m:Nat)(ks:List Key)(cl:List Cl)(new:List (Nat×À))(hO:Ζ P w cl)(next:∀a' w',Ext w w'->St w0 a' w' n (new++l) bl vs->Ð P os.toArray Q (os.drop m) a' w')(hk:zG P ks:=by exact G)
  (hx:runs P (jO bl vs) os.toArray n (os.take m) l ks (cl.map (·.2.2.2)) new=wants (jO bl vs) ks cl new:=by kernel_rfl) (hs:sF (os.take m) l new=true:=by kernel_rfl)
  (hmo:P.follows .mixedOrders=true:=by kernel_rfl) (hB:okB os.toArray m n=true:=by kernel_rfl) (hD:sG os.toArray (os.take m)=true:=by kernel_rfl):(Code.region id os.toArray true).wp P Q a w:=by
 obtain⟨e',T,C,h1,hcl,h2⟩:=ED hx;rw[<-hcl]at hO;have hops:∀(j:Nat) o,(os.take m)[j]?=some o->os.toArray[j]?=some o:=λj o h=>by
  rw[List.getElem?_take]at h;split at h
  .simpa using h
  cases h
 have atz:=Kw (P:=P) (ops:=os.toArray) (hd:=os.take m) (Ta:=T) (n:=n) (e0:=lift l) (DN:=a.eval) (w0:=w) hops hD (bU S.s) (λs x hx=>by
  rw[jm]at hx;cases hl:l.lookup s with
  | none=>simp[hl]at hx
  | some v=>simp only[hl,Ę,Ò]at hx; rw[<-hx]) S.JJ (os.take m) 0 I I (λs x hx => .inr ⟨λj o hj=>by omega,hx⟩) h1 I hk hO
 refine Rel.wp_region m hmo (by rw[S.s.size]; exact hB) Ext (λw'=>Ext w w') (T.map X5) (below_drewN (ù _ _) 1) (λ_ _ h k=>Ã h k) ?_ atz λw' hC=>?_
 .intro T' hT v w1 w2 _ h;obtain⟨x,_,rfl⟩:=Ć.1 hT;exact h
 refine UR _ h1 S.s.size (bU S.s) λa' hsz hd hh=>?_;exact next a' w' hC ((S.grow hC).act (G6 h1 h2 hs hsz (by rw[hd,S.s.defers]) hh))
abbrev St.ch{w':Á}{b:Nat}{A:List À}(S:St w0 a w n l bl vs)(hc:Ch b w w'){k:Nat}{A0:List À}(hk:bl[k]?=some (b,A0))(hb:Bx w' b A.toArray)(hE:Ext w0 w'):St w0 a w' n l (bl.set k (b,A)) vs:=by
 have hkl:k<bl.length:=(List.getElem?_eq_some_iff.1 hk).1;have hmem:(b,A0)∈bl:=List.mem_of_getElem? hk;have hnd:=S.apart;have hbs:(bl.set k (b,A)).map (·.1)=bl.map (·.1):=by
  apply List.ext_getElem?;intro i;rw[List.getElem?_map,List.getElem?_map,List.getElem?_set];by_cases hi:k=i
  .subst hi; rw[Ï I,Ï hkl,hk]; rfl
  rw[É hi]
 have atA:∀p∈bl.set k (b,A),∃q∈bl,q.1=p.1:=λp hp=>by
  have:p.1∈(bl.set k (b,A)).map (·.1):=Ć.2 ⟨p,hp,I⟩;rw[hbs]at this;obtain⟨q,hq,he⟩:=Ć.1 this;exact⟨q,hq,he⟩
 refine⟨S.s,hE,λp hp=>?_,by rw[hbs]; exact hnd,λm hm=>⟨?_,λp hp=>?_⟩⟩
 .obtain⟨i,hi⟩:=List.getElem?_of_mem hp;rw[List.getElem?_set]at hi;by_cases hik:k=i
  .subst hik;rw[Ï I,Ï hkl]at hi;obtain rfl:=Ü hi;exact⟨hb,(S.own _ hmem).2⟩
  rw[É hik]at hi;have hpm:=List.mem_of_getElem? hi;refine⟨(S.own p hpm).1.ch hc λe=>hik ?_,(S.own p hpm).2⟩;have h1:(bl.map (·.1))[k]?=some b:=by rw[List.getElem?_map,hk]; rfl
  have h2:(bl.map (·.1))[i]?=some b:=by rw[List.getElem?_map,hi]; exact Ñ some e
  exact(List.getElem?_inj (by simpa using hkl) hnd).1 (h1.trans h2.symm)
 .obtain⟨⟨h1,h2⟩,h3⟩:=S.mem m hm;refine⟨ā h1 hc.size,λj v hj=>?_⟩;rw[hc.cell (p:=⟨m.1,m.2.1+j,none⟩) h1 (λe=>h3 _ hmem e.symm)];exact h2 j v hj
 obtain⟨q,hq,he⟩:=atA p hp;rw[<-he]; exact(S.mem m hm).2 q hq
def callOf(P:Ø)(os:List Ì)(l:List (Nat×À)):Option (FuncId×Array À×Option Nat):=
 match os with
 | o::_=>(match o.guard,vT o.op || !o.op.operands.all (λx=>(rd (lift l) [] x).isSome),iT (ev0 P (Ù (zi (lift l) []) o))with
  | none,false,some (.enter f args)=>some (f,args,o.dst)
  | _,_,_=>none)
 | []=>none
def zo(l:List (Nat×À))(d:Option Nat)(v:À):List (Nat×À):=match d with | some d=>(d,v)::l | none=>l
def uN(n:Nat)(d:Option Nat):Bool:=match d with | some d=>decide (d<n) | none=>true
abbrev uf{a:Act}(h:Vp.St a n l){d:Option Nat}(hd:uN n d=true)(v:À):Vp.St (a.put d v) n (zo l d v):=by
 cases d with
 | none=>exact h
 | some d=>exact h.put d (by simpa[uN]using hd) v
abbrev nZ(S:St w0 a w n l bl vs)(d:Option Nat){R:Ļ->Á->Prop}(hc:Ä P f args w R)
  (next:∀e w',R e w'->∃v,e = .R v∧Ext w w'∧∀a',St w0 a' w' n (zo l d v) bl vs->Ð P ops Q (os.drop 1) a' w')
  (hx:callOf P os l=some (f,args,d):=by kernel_rfl) (hd:uN n d=true:=by rfl):Ð P ops Q os a w:=by
 cases os with
 | nil=>cases hx
 | cons o os =>
  unfold callOf at hx;simp only at hx;split at hx
  .rename_i f' args' hg hav hev;simp only[Ò,Ô]at hx;obtain⟨rfl,rfl,rfl⟩:=hx;simp only[Ĕ]at hav;have hrun:(Ù a.eval o).run P w = .ok (.enter f' args') w:=kH (Std.act a) (gG (bU S.s) o) (p:=[]) I hav.1 (by simpa using hav.2) hev;unfold Ð;rw[Ï (by simp[Region.wanted,hg])];left;unfold Oper.wp;rw[hrun];simp only[Oper.upon];refine hc.mono λe w' hR=>?_;obtain⟨v,rfl,hE,hn⟩:=next e w' hR;exact hn _ ((S.grow hE).act (uf S.s hd v))
  cases hx
abbrev ajo(S:St w0 a w n l bl vs)(k:Nat)(A':List À)(d:Option Nat){R:Ļ->Á->Prop}(hk:bl[k]?=some (b,A))(hc:Ä P f args w R)
  (next:∀e w',R e w'->∃v,e = .R v∧Ext w0 w'∧Ch b w w'∧Bx w' b A'.toArray∧∀a',St w0 a' w' n (zo l d v) (bl.set k (b,A')) vs->Ð P ops Q (os.drop 1) a' w')
  (hx:callOf P os l=some (f,args,d):=by kernel_rfl) (hd:uN n d=true:=by rfl):Ð P ops Q os a w:=by
 cases os with
 | nil=>cases hx
 | cons o os =>
  unfold callOf at hx;simp only at hx;split at hx
  .rename_i f' args' hg hav hev;simp only[Ò,Ô]at hx;obtain⟨rfl,rfl,rfl⟩:=hx;simp only[Ĕ]at hav;have hrun:(Ù a.eval o).run P w = .ok (.enter f' args') w:=kH (Std.act a) (gG (bU S.s) o) (p:=[]) I hav.1 (by simpa using hav.2) hev;unfold Ð;rw[Ï (by simp[Region.wanted,hg])];left;unfold Oper.wp;rw[hrun];simp only[Oper.upon];refine hc.mono λe w' hR=>?_;obtain⟨v,rfl,hE,hC,hX,hn⟩:=next e w' hR;exact hn _ ((S.ch hC hk hX hE).act (uf S.s hd v))
  cases hx
abbrev zJ(S:St w0 a w n l bl vs)(d:Nat)(hc:Ä P f args w (RF w V))
  (next:∀a' w',Ext w w'->St w0 a' w' n ((d,V)::l) bl vs->Ð P ops Q (os.drop 1) a' w') (hx:callOf P os l=some (f,args,some d):=by kernel_rfl) (hd:uN n (some d)=true:=by rfl):Ð P ops Q os a w:=
 nZ S (some d) hc (λe w' h=>⟨V,h.1,h.2,λa'=>next a' w' h.2⟩) hx hd
abbrev calls(S:St w0 a w n l bl vs)(d:Nat)(hc:Ä P f args w λe w'=>e = .R V∧w=w')
  (next:∀a',St w0 a' w n ((d,V)::l) bl vs->Ð P ops Q (os.drop 1) a' w) (hx:callOf P os l=some (f,args,some d):=by kernel_rfl) (hd:uN n (some d)=true:=by rfl):Ð P ops Q os a w:=
 nZ S (some d) hc (λe w' h=>⟨V,h.1,by rw[h.2]; exact ô,λa' s=>by obtain⟨-,rfl⟩:=h; exact next a' s⟩) hx hd
def Fp(P:Ø)(r:Nat)(os:List Ì)(l:List (Nat×À)):Option (List À×À×Option Nat):=
 match os with
 | o::_=>(match o.guard,vT o.op || !o.op.operands.all (λx=>(rd (lift l) [] x).isSome),Fh P r (Ù (zi (lift l) []) o)with
  | none,false,some (A,_,k)=>(match iT (ev0 P k)with | some (.val v)=>some (A,v,o.dst) | _=>none)
  | _,_,_=>none)
 | []=>none
abbrev new(S:St w0 a w n l bl vs)(d:Nat)(A:List À)(V:Nat->À)(next:∀a' w' b,Ext w w'->b=w.heap.size->St w0 a' w' n ((d,V b)::l) ((b,A)::bl) vs->Ð P ops Q (os.drop 1) a' w')
  (hx:∀r,Fp P r os l=some (A,V r,some d):=by intro r; kernel_rfl) (hd:uN n (some d)=true:=by rfl):Ð P ops Q os a w:=by
 have hx:=hx w.heap.size;cases os with
 | nil=>cases hx
 | cons o os =>
  unfold Fp at hx;simp only at hx;split at hx
  .rename_i A' ty k hg hav hev;split at hx
   .rename_i v hv;simp only[Ò,Ô]at hx;obtain⟨rfl,rfl,hdst⟩:=hx;simp only[Ĕ]at hav;have hc:Ù a.eval o=Ù (zi (lift l) []) o:=by
     refine execOp_congr o (λcs b e1=>by rw[e1]at hav; cases hav.1) λx hx=>?_;have h2:=hav.2;simp only[Ő,ϑ]at h2;obtain⟨v,hv⟩:=į.1 (h2 x hx);rw[gK (Std.act a) (gG (bU S.s) o x hx) (p:=[]) I hv];simp[zi,hv]
    have hv':ev0 P k=some (.value (V w.heap.size)):=by
     unfold iT at hv;split at hv
     .rename_i h; obtain h2:=Ü hv; rw[h]; simp only[FH.val.injEq]at h2; rw[h2]
     .cases hv
     cases hv
    have hrun:(Ù a.eval o).run P w = .ok (.value (V w.heap.size)) (w.alloc (.cells A'.toArray ty)):=by rw[hc,nD hev,nY hv']
    unfold Ð;rw[Ï (by simp[Region.wanted,hg])];left;unfold Oper.wp;rw[hrun];simp only[Oper.upon];have hE:Ext w (w.alloc (.cells A'.toArray ty)):=aH _ _;have S1:=S.grow hE;have hlt:∀p∈bl,p.1<w.heap.size:=λp hp=>(S.own p hp).1.1;rw[hdst];refine next _ _ w.heap.size hE I ⟨uf S.s hd _,S1.E,λp hp=>?_,?_,λm hm=>⟨(S1.mem m hm).1,λp hp=>?_⟩⟩
    .rcases ç.1 hp with rfl | hp
     .exact⟨Hl w _ _,S.E.size⟩
     exact S1.own p hp
    .rw[Ē,ŵ];refine⟨λhm=>?_,S.apart⟩;obtain⟨p,hp,hpe⟩:=Ć.1 hm;have:=hlt p hp;simp only at hpe;omega
    rcases ç.1 hp with rfl | hp
    .have:=(S.mem m hm).1.1; simp only; omega
    exact(S1.mem m hm).2 p hp
   cases hx
  cases hx
abbrev af7(S:St w0 a w n l bl vs)(d:Nat)(A:List À)(ty:á)(V:Nat->À)(hos:os=o::os')(hg:o.guard=none)(hdst:o.dst=some d)
  (hrun:(Ù a.eval o).run P w = .ok (.value (V w.heap.size)) (w.alloc (.cells A.toArray ty))) (next:∀a' w' b,Ext w w'->b=w.heap.size->St w0 a' w' n ((d,V b)::l) ((b,A)::bl) vs->Ð P ops Q (os.drop 1) a' w')
  (hd:uN n (some d)=true:=by rfl):Ð P ops Q os a w:=by
 subst hos;unfold Ð;rw[Ï (by simp[Region.wanted,hg])];left;unfold Oper.wp;rw[hrun];simp only[Oper.upon];have hE:Ext w (w.alloc (.cells A.toArray ty)):=aH _ _;have S1:=S.grow hE;have hlt:∀p∈bl,p.1<w.heap.size:=λp hp=>(S.own p hp).1.1;rw[hdst];refine next _ _ w.heap.size hE I ⟨uf S.s hd _,S1.E,λp hp=>?_,?_,λm hm=>⟨(S1.mem m hm).1,λp hp=>?_⟩⟩
 .rcases ç.1 hp with rfl | hp
  .exact⟨Hl w _ _,S.E.size⟩
  exact S1.own p hp
 .rw[Ē,ŵ];refine⟨λhm=>?_,S.apart⟩;obtain⟨p,hp,hpe⟩:=Ć.1 hm;have:=hlt p hp;simp only at hpe;omega
 rcases ç.1 hp with rfl | hp
 .have:=(S.mem m hm).1.1; simp only; omega
 exact(S1.mem m hm).2 p hp
abbrev oQ(S:St w0 a w n l bl vs)(d:Nat)(A:List À)(next:∀a' w' b,Ext w w'->b=w.heap.size->St w0 a' w' n ((d,.q b 0)::l) ((b,A)::bl) vs->Ð P ops Q (os.drop 1) a' w')
  (hx:∀r,Fp P r os l=some (A,.q r 0,some d):=by intro r; kernel_rfl) (hd:uN n (some d)=true:=by rfl):Ð P ops Q os a w:=new S d A _ next hx hd
abbrev news(S:St w0 a w n l bl vs)(d m:Nat)(A:List À)(next:∀a' w' b,Ext w w'->b=w.heap.size->St w0 a' w' n ((d,.s (some ⟨b,0,none⟩) m m)::l) ((b,A)::bl) vs->Ð P ops Q (os.drop 1) a' w')
  (hx:∀r,Fp P r os l=some (A,.s (some ⟨r,0,none⟩) m m,some d):=by intro r; kernel_rfl) (hd:uN n (some d)=true:=by rfl):Ð P ops Q os a w:=new S d A (λb => .s (some ⟨b,0,none⟩) m m) next hx hd
def lU(P:Ø)(os:List Ì)(l:List (Nat×À)):Option (Nat×Nat×À×Nat):=
 match os with
 | o::_=>(match o.guard,o.dst,o.op with
  | none,none,.store ty x y=>(match rd (lift l) [] x,rd (lift l) [] y,P.info? ty with
   | some (.q b off),some v,some i=>some (b,off,v,i.size)
   | _,_,_=>none)
  | _,_,_=>none)
 | []=>none
abbrev qC{os:List Ì}(h:lU P os l=some (b,off,v,k)):∃o os' ty x y,os=o::os'∧o.guard=none∧o.dst=none∧o.op = .store ty x y∧rd (lift l) [] x=some (.q b off)∧rd (lift l) [] y=some v∧(P.info? ty).map (·.size)=some k:=by
 cases os with
 | nil=>cases h
 | cons o os =>
  unfold lU at h;simp only at h;split at h
  .rename_i ty x y hg hd hop;split at h
   .rename_i b' off' v' i hx hy hi;simp only[Ò,Ô]at h;obtain⟨rfl,rfl,rfl,rfl⟩:=h;exact⟨o,os,ty,x,y,I,hg,hd,hop,hx,hy,by rw[hi]; rfl⟩
   cases h
  cases h
def spl(A:List À)(off:Nat)(cs:List À):List À:=A.take off++cs++A.drop (off+cs.length)
abbrev WS{w:Á}(h:Bx w b A.toArray)(o:Nat)(vs:List À)(hn:o+vs.length<=A.length):Bx (w.setCells b o vs) b (spl A o vs).toArray:=by
 have hth:w.there b o vs.length:=λj hj=>by
  rw[h.2.1,h.2.2,Array.getElem?_eq_getElem (by simp; omega)]; exact⟨I,I⟩
 have hl:(A.take o).length=o:=by simp; omega
 unfold spl;refine⟨by rw[size_setCells]; exact h.1,λi=>?_,λi=>by rw[pX]; exact h.2.2 i⟩;by_cases h1:i<o
 .rw[kT b vs o w i (.inl h1),h.2.1];simp only[List.getElem?_toArray];rw[ĭ,List.getElem?_append_left Z,List.getElem?_take_of_lt h1]
 by_cases h2:i<o+vs.length
 .obtain⟨j,rfl⟩:∃j,i=o+j:=⟨i-o,Z⟩;have:=World.rangeAt_setCells_same w b o vs hth j (vs[j]'Z) Y;rw[this];simp only[List.getElem?_toArray];rw[List.getElem?_append_left (by simp; omega),List.getElem?_append_right Z,hl,azg,List.getElem?_eq_getElem]
 rw[kT b vs o w i (.inr Z),h.2.1];simp only[List.getElem?_toArray];rw[List.getElem?_append_right (by simp; omega)];simp only[ì,hl,List.getElem?_drop];congr 1; omega
abbrev store(S:St w0 a w n l bl vs)(k:Nat)(hk:bl[k]?=some (b,A))(next:∀w',Ch b w w'->St w0 a w' n l (bl.set k (b,spl A off cs)) vs->Ð P ops Q (os.drop 1) a w')
  (hx:lU P os l=some (b,off,.agg cs.toArray,cs.length):=by kernel_rfl) (hf:decide (off+cs.length<=A.length)=true:=by kernel_rfl) (h1:cs.all (·.oneCell')=true:=by kernel_rfl):Ð P ops Q os a w:=by
 obtain⟨o,os',ty,x,y,rfl,hg,hd,hop,hx,hy,hi⟩:=qC hx;have hf':off+cs.length<=A.length:=by simpa using hf
 have hbx:=(S.own _ (List.mem_of_getElem? hk)).1;have hR:=gG (bU S.s) o;have hxv:=gK (Std.act a) (hR x (by rw[hop]; simp[Op.operands])) (p:=[]) I hx;have hyv:=gK (Std.act a) (hR y (by rw[hop]; simp[Op.operands])) (p:=[]) I hy;have hth:w.there b off cs.toArray.size:=λj hj=>by
  have h3:j<cs.length:=by simpa using hj
  rw[hbx.2.1,hbx.2.2,Array.getElem?_eq_getElem (by simp; omega)]; exact⟨I,I⟩
 refine wpList_store_mid hg ty x y hop b off cs.toArray hxv hyv hth (by rw[hi]; simp) (by rw[<-h1]; simp) ?_;rw[hd];have hc:Ch b w (w.setCells b off cs):=(Ch.refl b w).setCells cs off;have hbw:w0.heap.size<=b:=(S.own _ (List.mem_of_getElem? hk)).2;exact next _ hc (S.ch hc hk (WS hbx off cs hf') (uQ S.E hbw cs off))
abbrev store1(S:St w0 a w n l bl vs)(k:Nat)(hk:bl[k]?=some (b,A))(next:∀w',Ch b w w'->St w0 a w' n l (bl.set k (b,spl A off [v])) vs->Ð P ops Q (os.drop 1) a w')
  (hx:lU P os l=some (b,off,v,1):=by kernel_rfl) (hf:decide (off<A.length)=true:=by kernel_rfl) (h1:v.cells = #[v]:=by kernel_rfl) (h1':v.oneCell'=true:=by kernel_rfl):Ð P ops Q os a w:=by
 obtain⟨o,os',ty,x,y,rfl,hg,hd,hop,hx,hy,hi⟩:=qC hx;have hf':off<A.length:=by simpa using hf
 have hbx:=(S.own _ (List.mem_of_getElem? hk)).1;have hR:=gG (bU S.s) o;have hxv:=gK (Std.act a) (hR x (by rw[hop]; simp[Op.operands])) (p:=[]) I hx;have hyv:=gK (Std.act a) (hR y (by rw[hop]; simp[Op.operands])) (p:=[]) I hy;have hc:Ch b w (w.setCells b off [v]):=(Ch.refl b w).setCells [v] off;have hbw:w0.heap.size<=b:=(S.own _ (List.mem_of_getElem? hk)).2;have hS:=S.ch hc hk (WS hbx off [v] (by simp; omega)) (uQ S.E hbw [v] off);have hcell:=hbx.2.1 off;rw[Array.getElem?_eq_getElem (by simpa using hf')]at hcell;have hrun:(Instr.storeAt ty (.q b off) v).run P w = .ok () (w.setCells b off [v]):=by
  cases hq:P.info? ty with
  | none=>simp[hq]at hi
  | some i =>
   have hsz:i.size=1:=by simpa[hq]using hi
   have:=run_storeCells_cells (P:=P) b off [v] 0 w (λj hj=>by obtain rfl:j=0:=(by simpa using hj); simp[hcell]) (λj hj=>by simpa using hbx.2.2 (off+j)) (λu hu=>by simp at hu; subst hu; exact h1');simp only[Λ]at this;simp[Instr.storeAt,Instr.sureAddr,storeVar,sizeOf,typeInfo,hq,h1,hsz,this]
 have hrun':(Ù a.eval o).run P w = .ok .skip (w.setCells b off [v]):=by
  unfold Ù;simp only[hop,hxv,hyv,ķ,hrun];rfl
 unfold Ð;rw[Ï (by simp[Region.wanted,hg])];left;unfold Oper.wp;rw[hrun'];simp only[Oper.upon];rw[hd];exact next _ hc hS
abbrev St.sub(S:St w0 a w n l bl vs)(l':List (Nat×À))(h:l'.map (λp=>l.lookup p.1)=l'.map (λp=>some p.2):=by kernel_rfl):St w0 a w n l' bl vs:=by
 refine S.act ⟨S.s.size,S.s.defers,λi v hl=>S.s.has i v ?_⟩;have hm:(i,v)∈l':=by
  clear h;induction l' with
  | nil=>simp at hl
  | cons p l' ih =>
   rw[ġ]at hl;by_cases hi:i=p.1
   .subst hi;simp only[Ŷ,Ò]at hl;subst hl; simp
   have e1:(i==p.1)=false:=by simpa using hi
   rw[e1]at hl;exact Ŋ _ (ih hl)
 exact azj.1 h (i,v) hm
abbrev St.l9(S:St w0 a w n l bl vs)(k:Nat):St w0 a w n l (bl.drop k) vs:=
 ⟨S.s,S.E,λp hp=>S.own p (ayV hp),List.Nodup.sublist ((List.drop_sublist k bl).map _) S.apart,λm hm=>⟨(S.mem m hm).1,λp hp=>(S.mem m hm).2 p (ayV hp)⟩⟩
abbrev St.view0(S:St w0 a w n l bl vs){b o:Nat}{cs:List À}(hb:b<w0.heap.size)(hr:w0.rangeAt b o cs):St w0 a w n l bl ((b,o,cs)::vs):=
 ⟨S.s,S.E,S.own,S.apart,λm hm=>by
  rcases ç.1 hm with rfl | hm
  .refine⟨⟨ā hb S.E.size,qG hr hb S.E⟩,λp hp e=>?_⟩
   have:=(S.own p hp).2
   simp only at e
   omega
  .exact S.mem m hm⟩
abbrev St.view(S:St w0 a w n l bl vs){b o:Nat}{cs:List À}(hb:b<w.heap.size)(hr:w.rangeAt b o cs)(hne:∀p∈bl,p.1≠b):St w0 a w n l bl ((b,o,cs)::vs):=
 ⟨S.s,S.E,S.own,S.apart,λm hm=>by
  rcases ç.1 hm with rfl | hm
  .exact⟨⟨hb,hr⟩,hne⟩
  .exact S.mem m hm⟩
abbrev St.views(S:St w0 a w n l bl vs)(vs':List eU)(h:∀m∈vs',m∈vs):St w0 a w n l bl vs':=⟨S.s,S.E,S.own,S.apart,λm hm=>S.mem m (h m hm)⟩
abbrev St.qw(S:St w0 a w n l bl vs):St w0 a w n l bl []:=S.views [] λ_ h=>by cases h
abbrev St.sn(S:St w0 a w n l bl vs){l':List (Nat×À)}(h:l'.map (λp=>l.lookup p.1)=l'.map (λp=>some p.2):=by kernel_rfl):St w0 a w n l' bl []:=(S.sub l' h).qw
abbrev St.adopt(S:St w0 a w n l bl vs){b:Nat}{A:List À}(hx:Bx w b A.toArray)(hb:w0.heap.size<=b)(hne:∀p∈bl,p.1≠b)(hv:∀m∈vs,m.1≠b):St w0 a w n l ((b,A)::bl) vs:=
 ⟨S.s,S.E,λp hp=>(by
  rcases ç.1 hp with rfl | hp
  .exact⟨hx,hb⟩
  .exact S.own p hp),(by
  rw[Ē,ŵ]
  refine⟨λhm=>?_,S.apart⟩
  obtain⟨p,hp,he⟩:=Ć.1 hm
  exact hne p hp he),λm hm=>⟨(S.mem m hm).1,λp hp=>(by
  rcases ç.1 hp with rfl | hp
  .exact λe=>hv m hm e.symm
  .exact(S.mem m hm).2 p hp)⟩⟩
abbrev St.ne(S:St w0 a w n l bl vs){i j:Nat}{p q:Nat×List À}(hi:bl[i]?=some p)(hj:bl[j]?=some q)(hij:i≠j):p.1≠q.1:=λe=>hij (by
 have h1:(bl.map (·.1))[i]?=some p.1:=by rw[List.getElem?_map,hi]; rfl
 have h2:(bl.map (·.1))[j]?=some p.1:=by rw[List.getElem?_map,hj,e]; rfl
 exact(List.getElem?_inj (by simpa using (List.getElem?_eq_some_iff.1 hi).1) S.apart).1 (h1.trans h2.symm))
abbrev St.old(S:St w0 a w n l bl vs)(k:Nat){b:Nat}{A:List À}(hk:bl[k]?=some (b,A):=by rfl):w0.heap.size<=b:=(S.own _ (List.mem_of_getElem? hk)).2
abbrev St.bx(S:St w0 a w n l bl vs)(k:Nat){b:Nat}{A:List À}(hk:bl[k]?=some (b,A):=by rfl):Bx w b A.toArray:=(S.own _ (List.mem_of_getElem? hk)).1
abbrev enter{fn:Func}{c:Code}{args:List À}{R:Ļ->Á->Prop}{n:Nat}(hf:P.funcs[f]?=some fn)(hn:fn.ntmps=n)(h:∀a,St w a w n ((List.range args.length).zip args) [] []->c.wp P (Ī P fn R) a w)
  (hb:fn.body=some c:=by rfl) (hsz:decide (args.length<=n)=true:=by kernel_rfl):Ä P f args.toArray w R:=
 Vp.enter hf hb (by rw[hn]; simpa using hsz) λa s=>h a ⟨(by rw[hn]at s; simpa using s),ô,λp hp=>(by cases hp),List.nodup_nil,λm hm=>(by cases hm)⟩
abbrev Bd{w0:Á}{fn:Func}{c:Code}{args:List À}{R:Ļ->Á->Prop}{n:Nat}(hf:P.funcs[f]?=some fn)(hn:fn.ntmps=n)(hE:Ext w0 w)(hx:Bx w b A.toArray)(hb:w0.heap.size<=b)
  (h:∀a,St w0 a w n ((List.range args.length).zip args) [(b,A)] []->c.wp P (Ī P fn R) a w) (hb':fn.body=some c:=by rfl) (hsz:decide (args.length<=n)=true:=by kernel_rfl):Ä P f args.toArray w R:=
 Vp.enter hf hb' (by rw[hn]; simpa using hsz) λa s=>h a ⟨(by rw[hn]at s; simpa using s),hE,λp hp=>(by
  obtain rfl:=Ā.1 hp; exact⟨hx,hb⟩),by simp,λm hm=>(by cases hm)⟩
abbrev wrote(S:St w0 a w n l bl vs)(k:Nat)(A':List À)(V:À)(d:Option Nat)(hos:os=o::os')(hg:o.guard=none)(hdst:o.dst=d)(hk:bl[k]?=some (b,A))
  (hrun:(Ù a.eval o).run P w = .ok (.value V) w1) (hc:Ch b w w1) (hb:Bx w1 b A'.toArray) (hE:Ext w0 w1) (next:∀a',St w0 a' w1 n (zo l d V) (bl.set k (b,A')) vs->Ð P ops Q (os.drop 1) a' w1) (hd:uN n d=true:=by rfl):Ð P ops Q os a w:=by
 subst hos;unfold Ð;rw[Ï (by simp[Region.wanted,hg])];left;unfold Oper.wp;rw[hrun];simp only[Oper.upon];rw[hdst];have S1:=S.ch hc hk hb hE;exact next _ (S1.act (uf S.s hd V))
abbrev cond(S:St w0 a w n l bl vs){t:Bool}(ht:t=true->x.wp P Q a w)(hf:t=false->y.wp P Q a w)(hc:Vp.ev l c=some (.b t):=by rfl):(Code.cond c x y).wp P Q a w:=wp_cond_split (S.s.ev hc) ht hf
abbrev IU(S:St w0 a w n l bl vs)(h:x.wp P Q a w)(hc:Vp.ev l c=some (.b true):=by kernel_rfl):(Code.cond c x y).wp P Q a w:=wp_cond_true (S.s.ev hc) h
abbrev zL(S:St w0 a w n l bl vs)(h:y.wp P Q a w)(hc:Vp.ev l c=some (.z):=by kernel_rfl):(Code.cond c x y).wp P Q a w:=wp_cond_false (S.s.ev hc) h
abbrev aX{id:Nat}{os:List Ì}(h:∀K:Act->Á->Prop,(∀a w,y.wp P Q a w->K a w)->Ð P os.toArray (Exit.then K Q) os a w):(Code.seq (.region id os.toArray false) y).wp P Q a w:=
 ß λK hK=>wp_region_lit (h K hK)
abbrev done{os:List Ì}(h:Q .normal a w)(hx:os=[]:=by kernel_rfl):Ð P ops Q os a w:=by subst hx; exact h
abbrev rn(S:St w0 a w n l bl vs)(k:Nat)(ks:List Key)(new:List (Nat×À))(next:∀{a'},St w0 a' w n (new++l) bl vs->Ð P ops Q (os.drop k) a' w)(hk:zG P ks:=by exact G)
  (hx:runs P (jO bl vs) ops n (os.take k) l ks [] new=wants (jO bl vs) ks [] new:=by kernel_rfl) (hs:sF (os.take k) l new=true:=by kernel_rfl):Ð P ops Q os a w:=run S k ks new (λ_ S=>next S) hk hx hs
abbrev same(h:Ä P f args w λe w'=>e = .R V∧w=w'):Ä P f args w (RF w V):=h.mono λ_ _ h=>⟨h.1,by rw[<-h.2]; exact ô⟩
def kw(d:Nat)(x:Int):Key := .re d (.i (IntKind.i64.wrap x)) (.i x)
abbrev adC{x:Int}(h : -9223372036854775808<=x∧x<=9223372036854775807):Value.i (IntKind.i64.wrap x) = .i x:=by
 have:IntKind.i64.wrap x=x:=by rw[Ř]; omega
 rw[this]
abbrev vH{α:Type}{f:α->À}(l:List α)(hx:Bx w b (l.map f).toArray)(hl:l.length<=maxLen):aI 1 (λx=>[f x]) w (.s (some ⟨b,0,none⟩) l.length l.length) l:=
 ⟨_,_,I,hl,.inr ⟨b,0,I,hx.1,Ó _,λi hi j hj=>by
  obtain rfl:j=0:=by omega
  have:=hx.2.1 i
  simpa[hi]using this⟩⟩
abbrev aO{w w':Á}(h:Ext w1 w)(hc:Ch b w w')(hb:w1.heap.size<=b:=by omega):Ext w1 w':=(Ch.trans (Ch.bY h) hc).below hb (Ó _)
abbrev amq{k:IntKind}{x y:Int}:Value.int k (if y<x then y else x) = .int k (min x y):=by congr 1; split<;>omega
abbrev ade{k:IntKind}{x y:Int}:Value.int k (if y>x then y else x) = .int k (max x y):=by congr 1; split<;>omega
abbrev wrap_succ(h:(k:Int)+1<=9223372036854775807):Value.i (IntKind.i64.wrap ((k:Int)+1)) = .i (k+1:Nat):=by
 have:IntKind.i64.wrap ((k:Int)+1)=((k+1:Nat):Int):=by rw[Ř]; omega
 rw[this]
abbrev eH{k:BinOp}{t:á}{ox oy:ö}{xs ys:Array À}(h:∀w,(binOp k t (.agg xs) (.agg ys)).run P w = .ok V w)(hm:P.eqGuardType P.depth t=false) :
  ∀w,(do eqGuard k t ox oy (.agg xs) (.agg ys); binOp k t (.agg xs) (.agg ys):Sem À).run P w = .ok V w:=λw=>by
 simp only[ķ,h,run_eqGuard_agg w k t ox oy xs ys hm,ϖ]
abbrev rF(S:St w0 a w n l bl vs){fn:Func}{R:Ļ->Á->Prop}(hr:fn.results = #[.tmp r])(h:R (.R v) w)(hv:Vp.ev l (.tmp r)=some v:=by rfl):Ī P fn R .ret a w:=agP S.s hr hv h
abbrev Oy(S:St w0 a w n l bl vs){fn:Func}{R:Ļ->Á->Prop}(hr:fn.results = #[.tmp r,.tmp s])(h:R (.R (.tuple #[v,u])) w)(hv:Vp.ev l (.tmp r)=some v:=by rfl)(hu:Vp.ev l (.tmp s)=some u:=by rfl):Ī P fn R .ret a w:=acy S.s hr hv hu h
abbrev aiT{P:Ø}{o:Nat}(h:Qm P ty cs=some v)(hr:w.rangeAt b o cs):(loadVar ty ⟨b,o,none⟩).run P w = .ok v w:=by
 have:=O8 h hr;simpa[Instr.loadAt,Instr.sureAddr]using this
abbrev St.var(S:St w0 a w n l bl vs){k:Nat}{b:Nat}{A:List À}(hk:bl[k]?=some (b,A)){ty:á}{v:À}(h:Qm P ty A=some v):(loadVar ty ⟨b,0,none⟩).run P w = .ok v w:=
 aiT h (by
  have:=(S.bx k hk).range 0 A.length (cs:=A) Y
  exact this)
abbrev akK(S:St w0 a w n l bl vs)(k:Nat){fn:Func}{R:Ļ->Á->Prop}(hr:fn.results = #[.cell r ty])(hk:bl[k]?=some (b,A))(h:R (.R v) w)
  (hv:Vp.ev l (.tmp r)=some (.q b 0):=by kernel_rfl) (hl:Qm P ty A=some v:=by kernel_rfl):Ī P fn R .ret a w:=by
 refine⟨S.s.defers,_,?_,h⟩;have h1:=S.s.ev hv;have h2:=S.var hk hl;unfold results;rw[hr];simp only[Act.eval,Array.getD_eq_getD_getElem?]at h1;simp[h1,asAddr,h2]
abbrev aok(S:St w0 a w n l bl vs)(k:Nat){fn:Func}{R:Ļ->Á->Prop}(hr:fn.results = #[.cell r ty,.tmp s])(hk:bl[k]?=some (b,A))(h:R (.R (.tuple #[v,u])) w)
  (hv:Vp.ev l (.tmp r)=some (.q b 0):=by kernel_rfl) (hu:Vp.ev l (.tmp s)=some u:=by rfl) (hl:Qm P ty A=some v:=by kernel_rfl):Ī P fn R .ret a w:=by
 refine⟨S.s.defers,_,?_,h⟩;have h1:=S.s.ev hv;have h3:=S.s.ev hu;have h2:=S.var hk hl;unfold results;rw[hr];simp only[Act.eval,Array.getD_eq_getD_getElem?]at h1 h3;simp[h1,h3,asAddr,h2]
section
variable{id:Nat}{fn:Func}{R:Ļ->Á->Prop}
abbrev Rk [r:Vp.ϭ Q (Ī P fn R)](S:St w0 a w n l bl vs){r:Nat}{v:À}(hr:fn.results = #[.tmp r])(h:R (.R v) w)(hv:Vp.ev l (.tmp r)=some v:=by rfl):Code.ret.wp P Q a w:=Ġ (rF S hr h hv)
abbrev rt2 [r:Vp.ϭ Q (Ī P fn R)](S:St w0 a w n l bl vs){r s:Nat}{v u:À}(hr:fn.results = #[.tmp r,.tmp s])(h:R (.R (.tuple #[v,u])) w)(hv:Vp.ev l (.tmp r)=some v:=by rfl)(hu:Vp.ev l (.tmp s)=some u:=by rfl):Code.ret.wp P Q a w:=Ġ (Oy S hr h hv hu)
abbrev rtc [r:Vp.ϭ Q (Ī P fn R)](S:St w0 a w n l bl vs)(k:Nat){r b:Nat}{ty:á}{A:List À}{v:À}(hr:fn.results = #[.cell r ty])(hk:bl[k]?=some (b,A))(h:R (.R v) w)
  (hv:Vp.ev l (.tmp r)=some (.q b 0):=by kernel_rfl) (hl:Qm P ty A=some v:=by kernel_rfl):Code.ret.wp P Q a w:=Ġ (akK S k hr hk h hv hl)
end
end
abbrev Ar:=List (Nat×Fact)
def pT(U:Ar)(x:Nat->À)(o:Ì)(t:T3):T3:=match o.dst with | some d=>(match U.lookup d with | some _=>(true,x d,false) | none=>t) | none=>t
def fx(U:Ar)(o:Ì)(t:T3):Fact:=match o.dst with | some d=>(match U.lookup d with | some K=>K | none=>X5 t) | none=>X5 t
def Dw:Ar->Prop
 | []=>True
 | p::r=>(∀v w w',Ext w w'->p.2 v w->p.2 v w')∧Dw r
def oI(U:Ar)(x:Nat->À)(w:Á):List Nat->Prop
 | []=>True
 | s::r=>(match U.lookup s with | some K=>K (x s) w | none=>True)∧oI U x w r
abbrev ClX:=FuncId×Array À×Bool×À×Nat
def agA(U:Ar)(d:Nat)(V v:À)(w:Á):Prop:=match U.lookup d with | some K=>K v w | none=>v=V
def Ui(P:Ø)(w:Á)(U:Ar)(x:Nat->À):List ClX->List (List Nat)->Prop
 | [],_=>True
 | _::_,[]=>False
 | c::cs,s::ss=>(∀w',Ext w w'->c.2.2.1=true->oI U x w' s->Ä P c.1 c.2.1 w' (λe w''=>∃v,e = .R v∧agA U c.2.2.2.2 c.2.2.2.1 v w''∧Ext w' w''))∧Ui P w U x cs ss
def iK(base:Nat)(A:List À)(sh:Option Nat):Fact:=λv w=>∃b,v=Z5 sh b∧base<=b∧Bx w b A.toArray
abbrev iK.mono{base:Nat}{A:List À}{sh:Option Nat}:∀v w w',Ext w w'->iK base A sh v w->iK base A sh v w':=λv w w' hE ⟨b,h1,h2,h3⟩=>⟨b,h1,h2,h3.ext hE⟩
def Ų(U:Ar)(base q:Nat):List Key->Prop
 | []=>True
 | .new d A sh r::ks=>(r=q∧U.lookup d=some (iK base A sh))∧Ų U base q ks
 | _::ks=>Ų U base q ks
abbrev Ų.mem{U:Ar}{base q:Nat}:∀{ks:List Key} {d:Nat} {A:List À} {sh:Option Nat} {r:Nat},Ų U base q ks->Key.new d A sh r∈ks->r=q∧U.lookup d=some (iK base A sh)
 | [],_,_,_,_,_,h=>by cases h
 | k::ks,d,A,sh,r,h,hm=>by
  have h2:Ų U base q ks:=by cases k<;>first | exact h | exact h.2
  rcases ç.1 hm with e | hm2
  .subst e; exact h.1
  .exact Ų.mem h2 hm2
abbrev _root_.Go.Rel.Upon.mono{P:Ø}{K K':À->Á->Prop}{r:Result Next}(h:Upon P K r)(hK:∀v w,K v w->K' v w):Upon P K' r:=by
 cases r with
 | ok x w =>
  cases x<;>simp only[Upon]at h |-;case value u=>exact hK _ _ h
  case skip=>exact hK _ _ h
  case enter f args=>exact h.mono λe w' ⟨v,he,hk⟩=>⟨v,he,hK _ _ hk⟩
 | halt x w=>exact h.elim
abbrev Hnd:=List (Nat×List Nat)
def hpost(U:Ar)(o:Ì)(v:À)(w:Á):Prop:=match o.dst with | some d=>(match U.lookup d with | some K=>K v w | none=>True) | none=>True
def ao8(y:Nat->À)(d m:Nat):À := .tuple ((List.range m).map λj=>y (1000*(j+1)+d)).toArray
def xT(T:List (Nat×Nat))(y:Nat->À)(s:Nat):À:=match T.lookup s with | some m=>ao8 y s m | none=>y s
def ajw(v:À)(j:Nat):À:=match v with | .tuple a=>a.getD j undef | _=>undef
def Θ(ρ:ö->À)(s:Nat):À:=match decide (s<1000)with | true=>ρ (.tmp s) | false=>ajw (ρ (.tmp (s%1000))) (s/1000-1)
abbrev ao9{T:List (Nat×Nat)}{ρ:ö->À}{s:Nat}(hs:s<1000)(h:∀m,T.lookup s=some m->∃a:Array À,ρ (.tmp s) = .tuple a∧a.size=m):xT T (Θ ρ) s=ρ (.tmp s):=by
 unfold xT;cases hl:T.lookup s with
 | none=>simp only; unfold Θ; rw[İ hs]
 | some m =>
  obtain⟨a,e,hm⟩:=h m hl;simp only;unfold ao8;rw[e];congr 1;refine Array.ext (by simpa using hm.symm) λi h1 h2=>?_;have hi:i<m:=by simpa using h1
  simp only[List.getElem_toArray,List.getElem_map,List.getElem_range];unfold Θ;rw[ľ Z];simp only;rw[show(1000*(i+1)+s)%1000=s by omega,show(1000*(i+1)+s)/1000-1=i by omega,e];unfold ajw;simp[Array.getD_eq_getD_getElem?,h2]
abbrev agB{α:Type}{l:List (Nat×α)}{i:Nat}{x:α}(h:l.lookup i=some x):(i,x)∈l:=by
 induction l with
 | nil=>simp at h
 | cons y l ih =>
  rw[ġ]at h;by_cases hi:i=y.1
  .subst hi;simp only[Ŷ,Ò]at h;subst h; simp
  have e1:(i==y.1)=false:=by simpa using hi
  rw[e1]at h;exact Ŋ _ (ih h)
def pY(P:Ø)(w:Á)(U:Ar)(T:List (Nat×Nat))(x:Nat->À)(os:List Ì):Hnd->List Key->Prop
 | h::hl,.hand _ kv::ks=>(∀o,os[h.1]?=some o->∀ρ w',Std ρ->Ext w w'->(∀q,q<1000->T.lookup q=none->ρ (.tmp q)=x q)->(∀q∈kv,ρ (.tmp q.1)=q.2)->oI U x w' h.2->Does P o ρ w' (λv w''=>Ext w' w''∧hpost U o (kept o v) w''))∧pY P w U T x os hl ks
 | [],.hand _ _::_=>False
 | hl,_::ks=>pY P w U T x os hl ks
 | _,[]=>True
def yj(os:List Ì):Hnd->List Key->Bool
 | h::hl,.hand d _::ks=>(os[h.1]?).bind (·.dst)==some d&&yj os hl ks
 | [],.hand _ _::_=>false
 | hl,_::ks=>yj os hl ks
 | _,[]=>true
abbrev pY.get{P:Ø}{w:Á}{U:Ar}{T:List (Nat×Nat)}{x:Nat->À}{os:List Ì}:∀{ks:List Key} {hl:Hnd} {d:Nat} {kv:List (Nat×À)},pY P w U T x os hl ks->yj os hl ks=true->Key.hand d kv∈ks ->
  ∃h∈hl,(os[h.1]?).bind (·.dst)=some d∧∀o,os[h.1]?=some o->∀ρ w',Std ρ->Ext w w'->(∀q,q<1000->T.lookup q=none->ρ (.tmp q)=x q)->(∀q∈kv,ρ (.tmp q.1)=q.2)->oI U x w' h.2->Does P o ρ w' (λv w''=>Ext w' w''∧hpost U o (kept o v) w'')
 | [],_,_,_,_,_,hm=>by cases hm
 | k::ks,hl,d,kv,hx,hk,hm=>by
  have tl:∀{hl':Hnd},pY P w U T x os hl' ks->yj os hl' ks=true->Key.hand d kv∈ks->(∀h∈hl',h∈hl)->∃h∈hl,(os[h.1]?).bind (·.dst)=some d∧∀o,os[h.1]?=some o->∀ρ w',Std ρ->Ext w w'->(∀q,q<1000->T.lookup q=none->ρ (.tmp q)=x q)->(∀q∈kv,ρ (.tmp q.1)=q.2)->oI U x w' h.2->Does P o ρ w' (λv w''=>Ext w' w''∧hpost U o (kept o v) w''):=λ{hl'} h1 h2 h3 h4=>by
   obtain⟨h,hh,r⟩:=pY.get h1 h2 h3
   exact⟨h,h4 h hh,r⟩
  cases k with
  | hand d' kv' =>
   cases hl with
   | nil=>exact hx.elim
   | cons h hl =>
    have hk2:((os[h.1]?).bind (·.dst)==some d'&&yj os hl ks)=true:=hk
    simp only[æ,Û]at hk2
    rcases ç.1 hm with e | hm
    .simp only[Key.hand.injEq]at e
     obtain⟨rfl,rfl⟩:=e
     exact⟨h,by simp,hk2.1,hx.1⟩
    .exact tl hx.2 hk2.2 hm λh hh=>by simp[hh]
  | _ =>
   rcases ç.1 hm with e | hm
   .cases e
   .cases hl<;>exact tl hx hk hm λ_ h=>h
def JL(os:List Ì)(m:Nat)(U:Ar)(hl:Hnd):Bool:=hl.all λp=>match os[p.1]? with
 | some o=>(match o.dst with
  | some d=>(U.lookup d).isSome&&p.2.all (λq=>(Sx.waits os.toArray o).contains q&&(os.take m).any (λo=>o.dst==some q))&&(os.take m).zipIdx.all (λy=>y.1.dst != some d||y.2==p.1)
  | none=>false)
 | none=>false
def PtR(r:FH)(v:À)(k:Bool)(ã:Bool)(d:Option Nat)(ws:List Nat)(C:List ZI):Prop:=match r with | .val u=>u=v∧k=true | .enter f args=>k=false∧((f,args,ã,v),d,ws)∈C | .new=>k=false
section
variable{P:Ø}{ms:List eU}{ops:Array Ì}{n:Nat}{hd:List Ì}{Ta:List T3}{e0:Env}
def Point(nw:Prop)(P:Ø)(ms:List eU)(ops:Array Ì)(hd:List Ì)(Ta:List T3)(e0:Env)(C:List ZI)(ks0:List Key)(j:Nat)(o:Ì):Prop:=
 ∃e p ώ ϋ r L1 v k,Ϗ hd Ta e0 j e∧pathOf ops e o=some p∧Zu P ms e p ώ o=some (r,ϋ,L1)∧(∃kl,ώ=kl++ϋ∧L1=kl.map (wJ ms)∧nT nw P kl)∧(∀k∈ώ,k∈ks0)∧Ta[j]?=some (jL e p,v,k) ∧
  PtR r v k (jL e p) o.dst (Sx.waits ops o) C
theorem Ky{nw:Prop}{C0:List ZI}{ks0:List Key}(hdst:∀o∈hd,o.dst.isSome=true):∀(os:List Ì) (i:Nat) {e e':Env} {ks:List Key} {L:List Loc} {C:List ZI} {T:List T3} {cs:List À},hd.drop i=os->Ta.drop i=T->Ϗ hd Ta e0 i e->exec P ms ops n os e ks cs=some (e',L,C,T) ->
  L=ks.map (wJ ms)->nT nw P ks->(∀k∈ks,k∈ks0)->(∀c∈C,c∈C0)->(∀j o,i<=j->hd[j]?=some o->Point nw P ms ops hd Ta e0 C0 ks0 j o)∧Ϗ hd Ta e0 hd.length e'
 | [],i,e,e',ks,L,C,T,cs,hos,hTa,ht,hx,hL,hk0,hks,hC=>by
  unfold exec at hx
  have hle:hd.length<=i:=by simpa using hos
  refine⟨λj o hij hj=>?_,?_⟩
  .have:=(List.getElem?_eq_some_iff.1 hj).1; omega
  .split at hx
   .simp only[Ò,Ô]at hx
    obtain⟨rfl,-⟩:=hx
    intro s x hs
    rcases ht s x hs with ⟨j,oj,hj,hoj,hdj,k,hTj⟩ | ⟨hno,h0⟩
    .exact .inl ⟨j,oj,(List.getElem?_eq_some_iff.1 hoj).1,hoj,hdj,k,hTj⟩
    .exact .inr ⟨λj oj hj hoj=>hno j oj Z hoj,h0⟩
   .cases hx
 | o::os,i,e,e',ks,L,C,T,cs,hos,hTa,ht,hx,hL,hk0,hks,hC=>by
  have ho:hd[i]?=some o:=by have:=Ñ List.head? hos; simpa[List.head?_drop]using this
  have aiS:hd.drop (i+1)=os:=by have:=Ñ List.tail hos; simpa[List.tail_drop]using this
  obtain⟨d,hd1⟩:=į.1 (hdst o (List.mem_of_getElem? ho))
  unfold exec at hx
  cases hp:pathOf ops e o with
  | none=>simp[hp]at hx
  | some p =>
   simp only[hp]at hx
   cases hpo:yg n e o.dst p with
   | false=>simp[hpo]at hx
   | true =>
    cases h1:Zu P ms e p ks o with
    | none=>simp[hpo,h1]at hx
    | some r =>
     obtain⟨r,ks',L1⟩:=r
     have go:∀v kk L' (C':List ZI) T' cs',exec P ms ops n os (put e o.dst p v) ks' cs'=some (e',L',C',T')->T=(jL e p,v,kk)::T'->L1++L'=ks.map (wJ ms)->(∀c∈C',c∈C0) ->
       PtR r v kk (jL e p) o.dst (Sx.waits ops o) C0 ->
       (∀j o,i<=j->hd[j]?=some o->Point nw P ms ops hd Ta e0 C0 ks0 j o)∧Ϗ hd Ta e0 hd.length e':=by
      intro v kk L' C' T' cs' hx' hT hL' hC' hr
      subst hT
      obtain⟨hkl,hL2,hk2⟩:=vN h1 hL' hk0
      have υ:Ta[i]?=some (jL e p,v,kk):=by have:=Ñ List.head? hTa; simpa[List.head?_drop]using this
      have agy:Ta.drop (i+1)=T':=by have:=Ñ List.tail hTa; simpa[List.tail_drop]using this
      have atB:∀k∈ks',k∈ks0:=λk hk=>hks k (by obtain⟨kl,rfl,_⟩:=hkl; exact Ş _ hk)
      have hpt:Point nw P ms ops hd Ta e0 C0 ks0 i o:=⟨e,p,ks,ks',r,L1,v,kk,ht,hp,h1,hkl,hks,υ,hr⟩
      rw[hd1]at hx' hpo
      have ih:=Ky hdst os (i+1) aiS agy (ht.put ho hd1 υ hpo) hx' hL2 hk2 atB hC'
      refine⟨λj oj hij hj=>?_,ih.2⟩
      rcases ĳ i j with hlt | hge
      .exact ih.1 j oj hlt hj
      .obtain rfl:j=i:=by omega
       rw[ho]at hj
       obtain rfl:=Ü hj
       exact hpt
     cases r with
     | val v =>
      simp only[hpo,h1]at hx
      cases hx':exec P ms ops n os (put e o.dst p v) ks' cs with
      | none=>simp[hx']at hx
      | some z =>
       obtain⟨e1,L',C',T'⟩:=z
       simp only[hx',Ò,Ô]at hx
       obtain⟨rfl,rfl,rfl,rfl⟩:=hx
       exact go v true _ _ _ _ hx' I hL hC ⟨I,I⟩
     | new =>
      simp only[hpo,h1]at hx
      cases cs with
      | nil=>simp at hx
      | cons v cs' =>
       simp only at hx
       cases hx':exec P ms ops n os (put e o.dst p v) ks' cs' with
       | none=>simp[hx']at hx
       | some z =>
        obtain⟨e1,L',C',T'⟩:=z
        simp only[hx',Ò,Ô]at hx
        obtain⟨rfl,rfl,rfl,rfl⟩:=hx
        exact go v false _ _ _ _ hx' I hL hC I
     | enter f args =>
      simp only[hpo,h1]at hx
      cases cs with
      | nil=>simp at hx
      | cons v cs' =>
       simp only at hx
       cases hx':exec P ms ops n os (put e o.dst p v) ks' cs' with
       | none=>simp[hx']at hx
       | some z =>
        obtain⟨e1,L',C',T'⟩:=z
        simp only[hx',Ò,Ô]at hx
        obtain⟨rfl,rfl,rfl,rfl⟩:=hx
        exact go v false _ _ _ _ hx' I hL (λc hc=>hC c (Ŋ _ hc)) ⟨I,hC _ Y⟩
end
abbrev Jk{P:Ø}{R:Á->Á->Prop}{C:Á->Prop}{Q:Exit->Act->Á->Prop}{a:Act}{w:Á}{l:List Ì}(n:Nat)(A:List Nat)(hB:okB l.toArray n a.tmps.size=true)
  (Ts:List Fact) (hA:Als l.toArray Ts A) (hC0:C { w with drawn:=w.drawn+1 }) (hC:∀w w',C w->R w w'->C w') (hm:∀T∈Ts,∀v w w',R w w'->T v w->T v w')
  (hob:∀(i:Nat) o,i<n->l[i]?=some o->tK P l.toArray (l.take n) Ts R C a.eval o (Ts.getD i top))
  (hend:∀a' w',C w'->a'.defers=a.defers->a'.tmps.size=a.tmps.size->(∀(j:Nat) o,(l.take n)[j]?=some o->Ts.getD j top (Rel.valOf a'.eval o.dst) w')->Rel.Out (l.take n) a'.eval a.eval ->
   (∀i∈A,∀j∈A,i≠j->i<n->j<n->∀o1 o2,l.toArray[i]?=some o1->l.toArray[j]?=some o2->Rel.valOf a'.eval o1.dst≠Rel.valOf a'.eval o2.dst)->Ð P l.toArray Q (l.drop n) a' w') :
  ď P .any l.toArray Q l.toArray.size (Array.replicate l.toArray.size false) a { w with drawn:=w.drawn+1 }:=
 Hg n hB (λ_=>R) C A 0 (λ_=>True) Ts hA hC0 G (λ_=>hC) (λ_ _ _ _ _ _=>G) (λj T hT i _=>hm T (List.mem_of_getElem? hT))
  (λi o hi ho=>(hob i o hi ho).cls λ_ h=>h.1) λa' w' hc hd hs hf ho ha=>hend a' w' hc hd hs hf (λt ht=>kR (ho t λj o hj hoj hdt=>by
   rw[ø]at ht
   have h3:=ht o (List.mem_iff_getElem?.2 ⟨j,by rw[List.getElem?_take_of_lt hj]; simpa using hoj⟩)
   rw[hdt]at h3
   simp at h3)) ha
def ace(os:List Ì)(U:Ar)(base:Nat):List (Nat×Nat)->Prop
 | []=>True
 | p::r=>(∃o t cs,os[p.1]?=some o∧o.op = .alloc t∧o.dst=some p.2∧o.guard=none∧U.lookup p.2=some (iK base cs none))∧ace os U base r
abbrev ace.mem{os:List Ì}{U:Ar}{base:Nat}:∀{A:List (Nat×Nat)},ace os U base A->∀p∈A,∃o t cs,os[p.1]?=some o∧o.op = .alloc t∧o.dst=some p.2∧o.guard=none∧U.lookup p.2=some (iK base cs none)
 | _::_,h,p,hp=>by
  rcases ç.1 hp with rfl | hp
  .exact h.1
  .exact ace.mem h.2 p hp
section
variable{P:Ø}{Q:Exit->Act->Á->Prop}{w0:Á}{a:Act}{w:Á}{os:List Ì}{n:Nat}{l:List (Nat×À)}{bl:List (Nat×List À)}{vs:List eU}
def clX(c:ClX):Cl×Option Nat:=((c.1,c.2.1,c.2.2.1,c.2.2.2.1),some c.2.2.2.2)
def UU(hd:List Ì)(U:Ar):List ZI->List (List Nat)->Bool
 | [],_=>true
 | _::_,[]=>false
 | c::cs,s::ss=>s.all (λd=>c.2.2.contains d&&hd.any (λo=>o.dst==some d))&&UU hd U cs ss
def XG(hd:List Ì)(U:Ar)(ns:List (List Nat))(new:List (Nat×À))(r:Out):List (Option (qJ×À))×List Loc×List (Cl×Option Nat)×List T3×Bool:=
 (new.map (λp=>(r.1.lookup p.1).map (cl1 r.1)),r.2.1,r.2.2.1.map (λc=>(c.1,c.2.1)),r.2.2.2,UU hd U r.2.2.1 ns)
def tv(r:Option Out):List T3:=match r with | some r=>r.2.2.2 | none=>[]
def patch(U:Ar)(x:Nat->À):List Ì->List T3->List T3
 | o::os,t::ts=>pT U x o t::patch U x os ts
 | _,_=>[]
def yC(U:Ar):List Ì->List T3->List Fact
 | o::os,t::ts=>fx U o t::yC U os ts
 | _,_=>[]
theorem qK{U:Ar}{x:Nat->À}:∀{hd:List Ì} {ts:List T3} {j:Nat} {o:Ì} {t:T3},hd[j]?=some o->(patch U x hd ts)[j]?=some t->∃t0,t=pT U x o t0∧(yC U hd ts)[j]?=some (fx U o t0)
 | [],_,j,o,t,h,_=>by simp at h
 | _::_,[],j,o,t,_,h=>by simp[patch]at h
 | o'::hd,t'::ts,j,o,t,h,h2=>by
  cases j with
  | zero =>
   simp only[List.getElem?_cons_zero,Ò]at h
   subst h
   simp only[patch,List.getElem?_cons_zero,Ò]at h2
   exact⟨t',h2.symm,I⟩
  | succ j=>exact qK (hd:=hd) (ts:=ts) (by simpa using h) (by simpa[patch]using h2)
theorem UW{U:Ar}(hU:Dw U):∀{hd:List Ì} {ts:List T3},∀T∈yC U hd ts,∀v w w',Ext w w'->T v w->T v w'
 | [],_,T,h=>by simp[yC]at h
 | _::_,[],T,h=>by simp[yC]at h
 | o::hd,t::ts,T,h=>by
  rcases ç.1 h with rfl | h
  .intro v w w' hE hT
   unfold fx at hT |-
   cases hd:o.dst with
   | none=>rw[hd]at hT; exact hT
   | some d =>
    rw[hd]at hT
    simp only at hT |-
    cases hl:U.lookup d with
    | none=>rw[hl]at hT; exact hT
    | some K =>
     rw[hl]at hT
     have key:∀{U:Ar},Dw U->U.lookup d=some K->∀v w w',Ext w w'->K v w->K v w':=by
      intro U
      induction U with
      | nil=>intro _ h; simp at h
      | cons p U ih =>
       intro hU h
       rw[ġ]at h
       split at h
       .obtain rfl:=Ü h; exact hU.1
       .exact ih hU.2 h
     exact key hU hl v w w' hE hT
  .exact UW hU T h
abbrev agC{U:Ar}{x:Nat->À}{hd:List Ì}{ts:List T3}{ρ:ö->À}{w:Á}{e0 e:Env}{i:Nat}(hx:∀s K,U.lookup s=some K->K (ρ (.tmp s)) w->x s=ρ (.tmp s))(ht:Ϗ hd (patch U x hd ts) e0 i e){s:Nat}{y:qJ×À}(hl:e.lookup s=some y)
  (hin:∀j o,j<i->hd[j]?=some o->o.dst=some s->(yC U hd ts).getD j top (ρ (.tmp s)) w) (hout:(∀j o,j<i->hd[j]?=some o->o.dst≠some s)->e0.lookup s=some y->ρ (.tmp s)=den e y):ρ (.tmp s)=den e y:=by
 rcases ht s y hl with ⟨j,oj,hj,hoj,hdj,k,hTj⟩ | ⟨hno,h3⟩
 .obtain⟨t0,h1,h2⟩:=qK hoj hTj;have h3:=hin j oj hj hoj hdj;have e1:(yC U hd ts).getD j top=fx U oj t0:=by simp[List.getD,h2]
  rw[e1]at h3;unfold pT at h1;unfold fx at h3;rw[hdj]at h1 h3;simp only at h1 h3;cases hl:U.lookup s with
  | none =>
   rw[hl]at h1 h3;simp only at h1 h3;subst h1;exact h3
  | some K =>
   rw[hl]at h1 h3;simp only[Ô]at h1;unfold den;rw[h1.1,h1.2.1,hx s K hl h3];rfl
 exact hout hno h3
theorem ZK{U:Ar}{x:Nat->À}{w:Á}{hd:List Ì}:∀{cl:List ClX} {ns:List (List Nat)} {C:List ZI},Ui P w U x cl ns->C.map (λc=>(c.1,c.2.1))=cl.map clX->UU hd U C ns=true->∀c∈C,∃d s,c.2.1=some d∧s.all (λd=>c.2.2.contains d&&hd.any (λo=>o.dst==some d))=true ∧
  ∀w',Ext w w'->c.1.2.2.1=true->oI U x w' s->Ä P c.1.1 c.1.2.1 w' (λe w''=>∃v,e = .R v∧agA U d c.1.2.2.2 v w''∧Ext w' w'')
 | [],_,C,_,hm,_,c,hc=>by
  have:C=[]:=by simpa using hm
  subst this; cases hc
 | c'::cl,[],C,ho,_,_,c,hc=>ho.elim
 | c'::cl,s::ns,[],_,hm,_,c,hc=>by cases hc
 | c'::cl,s::ns,c0::C,ho,hm,hn,c,hc=>by
  simp only[Ē,ģ]at hm
  unfold UU at hn
  rw[æ]at hn
  rcases ç.1 hc with rfl | hc
  .have h1:=hm.1
   unfold clX at h1
   simp only[Ô]at h1
   refine⟨_,s,h1.2,hn.1,?_⟩
   rw[h1.1]
   exact ho.1
  .exact ZK ho.2 hm.2 hn.2 c hc
theorem Kz{U:Ar}{x:Nat->À}{w:Á}:∀{s:List Nat},(∀d∈s,∀K,U.lookup d=some K->K (x d) w)->oI U x w s
 | [],_=>trivial
 | d::s,h=>⟨by
   cases hl:U.lookup d with
   | none=>trivial
   | some K=>exact h d Y K hl,Kz λd' hd'=>h d' (by simp[hd'])⟩
abbrev agD(T A:List (Nat×Nat))(S:St w0 a w n l bl vs)(m:Nat)(U:Ar)(ks:Nat->List Key)(cs:(Nat->À)->List À)(cl:(Nat->À)->List ClX)(ns:List (List Nat))(new:(Nat->À)->List (Nat×À))
  (hU:Dw U) (hO:∀x,Ui P w U x (cl x) ns)
  (next:∀a' w' y,Ext w w'->oI U (xT T y) w' (U.map (·.1))->(∀p∈A,∀q∈A,p.2≠q.2->xT T y p.2≠xT T y q.2)->St w0 a' w' n (new (xT T y)++l) bl vs->Ð P os.toArray Q (os.drop m) a' w')
  (hA:ace (os.take m) U w.heap.size A) (hN:∀r,Ų U w.heap.size r (ks r):=by intro r; exact G) (hk:∀r,nT True P (ks r):=by intro r; exact G)
  (hD0:(U.map (·.1)).all (λd=>(os.take m).any (λo=>o.dst==some d))=true:=by kernel_rfl)
  (hB:okB os.toArray m n=true:=by kernel_rfl) (hD:sG os.toArray (os.take m)=true:=by kernel_rfl)
  (hl:Hnd:=[]) (hH:∀x r,pY P w U T x os hl (ks r):=by intro x r; exact G) (ό:∀r,yj os hl (ks r)=true:=by intro r; kernel_rfl) (hHB:JL os m U hl=true:=by kernel_rfl)
  (hT:∀p∈T,∀K,U.lookup p.1=some K->∀v w,K v w->∃a:Array À,v = .tuple a∧a.size=p.2:=by intro p hp; cases hp) (hx:∀y r,(exec P (jO bl vs) os.toArray n (os.take m) (lift l) (ks r) (cs (xT T y))).map (XG (os.take m) U ns (new (xT T y)))=some ((new (xT T y)).map (λp=>some ([],p.2)),(ks r).map (wJ (jO bl vs)),(cl (xT T y)).map clX,patch U (xT T y) (os.take m) (tv (exec P (jO bl vs) os.toArray n (os.take m) (lift l) (ks 0) (cs λ_=>undef))),true):=by intro y r; kernel_rfl) (hs:∀y,sF (os.take m) l (new (xT T y))=true:=by intro y; kernel_rfl) (hn:(decide (n<=1000)&&(U.map (·.1)).all λd=>decide (d<n))=true:=by kernel_rfl):ď P .any os.toArray Q os.toArray.size (Array.replicate os.toArray.size false) a { w with drawn:=w.drawn+1 }:=by
 generalize hts:tv (exec P (jO bl vs) os.toArray n (os.take m) (lift l) (ks 0) (cs λ_=>undef))=ts at hx;simp only[æ,Ý]at hn;have hUn:∀s K,U.lookup s=some K->s<n:=λs K h=>by
  have:=ø.1 hn.2 s (Ć.2 ⟨_,agB h,I⟩);simpa using this
 have hxr:∀(ρ:ö->À) (w':Á) (s:Nat) K,s<n->U.lookup s=some K->K (ρ (.tmp s)) w'->xT T (Θ ρ) s=ρ (.tmp s):=λρ w' s K hs hK hk=>ao9 Z λm hm=>hT (s,m) (agB hm) K hK _ _ hk;have hsz:=S.s.size;have ok:=acw hB;have hops:∀(j:Nat) o,(os.take m)[j]?=some o->os.toArray[j]?=some o:=λj o h=>by
  rw[List.getElem?_take]at h;split at h
  .simpa using h
  cases h
 have hdst:∀o∈os.take m,o.dst.isSome=true:=by
  intro o ho;obtain⟨j,hj⟩:=List.getElem?_of_mem ho;unfold sG at hD;rw[ø]at hD;have:=hD _ (yY hj);simp only[æ]at this;exact this.1
 have hl0:∀s y,(lift l).lookup s=some y->y.1=[]∧a.eval (.tmp s)=y.2:=by
  intro s y hy;rw[jm]at hy;cases hl:l.lookup s with
  | none=>simp[hl]at hy
  | some v=>simp only[hl,Ę,Ò]at hy; rw[<-hy]; exact⟨I,S.s.has s v hl⟩
 have trace:∀y r,∃e' C,C.map (λc=>(c.1,c.2.1))=(cl (xT T y)).map clX∧UU (os.take m) U C ns=true∧(∀i v,(new (xT T y)).lookup i=some v->∃q,e'.lookup i=some (q,v)∧jL e' q=true) ∧
   (∃L TT,exec P (jO bl vs) os.toArray n (os.take m) (lift l) (ks r) (cs (xT T y))=some (e',L,C,TT)) ∧
   (∀j o,(os.take m)[j]?=some o->Point True P (jO bl vs) os.toArray (os.take m) (patch U (xT T y) (os.take m) ts) (lift l) C (ks r) j o)∧Ϗ (os.take m) (patch U (xT T y) (os.take m) ts) (lift l) (os.take m).length e':=by
  intro y r
  have h:=hx y r
  generalize xT T y=x at h |-
  cases hr:exec P (jO bl vs) os.toArray n (os.take m) (lift l) (ks r) (cs x)with
  | none=>rw[hr]at h; simp at h
  | some z =>
   obtain⟨e',L,C,TT⟩:=z
   rw[hr]at h
   simp only[Ę,XG,Ò,Ô]at h
   obtain⟨h1,rfl,h3,rfl,h5⟩:=h
   have hp:=Ky (nw:=True) (C0:=C) (ks0:=ks r) hdst (os.take m) 0 I (aza ..) (λs y hy => .inr ⟨λj o hj=>by omega,hy⟩) hr I (hk r) (λk hk=>hk) (λc hc=>hc)
   refine⟨e',C,h3,h5,λi v hl=>?_,⟨_,_,I⟩,λj o hj=>hp.1 j o (Õ _) hj,hp.2⟩
   have hm:(i,v)∈new x:=by
    clear h1 h3 h5 hp
    generalize new x=nx at hl |-
    induction nx with
    | nil=>simp at hl
    | cons p nx ih =>
     rw[ġ]at hl
     by_cases hi:i=p.1
     .subst hi
      simp only[Ŷ,Ò]at hl
      subst hl; simp
     .have e1:(i==p.1)=false:=by simpa using hi
      rw[e1]at hl
      exact Ŋ _ (ih hl)
   have:=azj.1 h1 (i,v) hm
   simp only[Option.map_eq_some_iff]at this
   obtain⟨y,h6,h7⟩:=this
   obtain⟨h8,h9⟩:=agz h7
   exact⟨y.1,by rw[h6,<-h8],h9⟩
 have EC:∀(ρ:ö->À) (w':Á) (o:Ì),Rel.QE os.toArray (yC U (os.take m) ts) ρ w' o.after.toList->∀g∈o.after.toList,Region.binds .any g=true->∀o',(os.take m)[g.on]?=some o'->(yC U (os.take m) ts).getD g.on top (Rel.valOf ρ o'.dst) w':=by
  intro ρ w' o hd g hg hb o' ho';have key:∀es:List Edge,Rel.QE os.toArray (yC U (os.take m) ts) ρ w' es->∀g∈es,Region.binds .any g=true->(yC U (os.take m) ts).getD g.on top (Rel.valOf ρ ((os.toArray[g.on]?).bind (·.dst))) w':=by
   intro es;induction es with
   | nil=>intro _ g hg; cases hg
   | cons x es ih =>
    intro h g hg hb;rcases ç.1 hg with rfl | hg
    .exact h.1 hb
    exact ih h.2 g hg hb
  have:=key _ hd g hg hb;rwa [hops _ _ ho',Ο]at this
 have hal:∀p∈A,∃o t cs,(os.take m)[p.1]?=some o∧o.op = .alloc t∧o.dst=some p.2∧o.guard=none∧U.lookup p.2=some (iK w.heap.size cs none)∧(yC U (os.take m) ts).getD p.1 top=iK w.heap.size cs none:=by
  intro p hp;obtain⟨o,t,cs,h1,h2,h3,h4,h5⟩:=hA.mem p hp;obtain⟨e',C,_,_,_,_,hpt,_⟩:=trace (λ_=>undef) 0;obtain⟨_,_,_,_,_,_,_,_,_,_,_,_,_,υ,_⟩:=hpt _ _ h1;obtain⟨t0,_,hfx⟩:=qK h1 υ;refine⟨o,t,cs,h1,h2,h3,h4,h5,?_⟩;simp[List.getD,hfx,fx,h3,h5]
 have hAl:Als os.toArray (yC U (os.take m) ts) (A.map (·.1)):=by
  intro i hi;obtain⟨p,hp,rfl⟩:=Ć.1 hi;obtain⟨o,t,cs,h1,h2,h3,h4,h5,h6⟩:=hal p hp;refine⟨λo2 ho2=>?_,λu w2 hu=>?_⟩
  .rw[hops _ _ h1]at ho2;obtain rfl:=Ü ho2;exact⟨t,_,h2,h3,h4⟩
  rw[h6]at hu;obtain⟨b,rfl,-,hb⟩:=hu;exact⟨b,I,hb.1⟩
 refine Jk m (A.map (·.1)) (by rw[hsz]; exact hB) (R:=Ext) (C:=λw'=>Ext w w') (yC U (os.take m) ts) hAl (below_drewN (ù _ _) 1) (λ_ _ h k=>Ã h k) (UW hU) ?_ ?_
 .intro i o hi ho ρ w' aiU hOut hC Yd;have hoi:(os.take m)[i]?=some o:=by rw[List.getElem?_take_of_lt hi]; exact ho
  obtain⟨e',C,Xq,hC5,_,_,hpt,_⟩:=trace (Θ ρ) w'.heap.size;obtain⟨e,p,ώ,ϋ,r,L1,v,k,ht,hp,h1,hkl,hks,υ,hr⟩:=hpt i o hoi;obtain⟨t0,G7,hfx⟩:=qK hoi υ;have hget:(yC U (os.take m) ts).getD i top=fx U o t0:=by simp[List.getD,hfx]
  rw[hget];have agE:∀s∈slotsOf os.toArray o,ZJ ((os.take m).map (·.dst)) i o.after.toList s=true:=by
   unfold sG at hD;rw[ø]at hD;have:=hD _ (yY hoi);simp only[æ,ø]at this;exact this.2
  have hrd:∀s∈slotsOf os.toArray o,ZH ρ e (.tmp s):=by
   intro s hs s' y hss hl;obtain rfl:=Operand.tmp.inj hss;refine agC (x:=xT T (Θ ρ)) (w:=w') (λs K hK hk=>hxr ρ w' s K (hUn s K hK) hK hk) ht hl (λj oj hj hoj hdj=>?_) λhno h3=>?_
   .have hdl:((os.take m).map (·.dst))[j]?=some (some s):=by rw[List.getElem?_map,hoj,Ę,hdj]
    obtain⟨_,g,hg,rfl,hb⟩:=yZ (agE s hs) hdl;have:=EC ρ w' o Yd g hg hb oj hoj;rw[hdj]at this;exact this
   have hall:(os.take m).all (λo => !(o.dst==some s))=true:=by
    rw[ø];intro oj hoj;obtain⟨j,hj⟩:=List.getElem?_of_mem hoj;simp only[ś,ä];intro hdj;have hdl:((os.take m).map (·.dst))[j]?=some (some s):=by rw[List.getElem?_map,hj,Ę,hdj]
    obtain⟨hlt,_⟩:=yZ (agE s hs) hdl;exact hno j oj hlt hj hdj
   obtain⟨h4,h5⟩:=hl0 s y h3;rw[hOut s hall,h5];unfold den;rw[h4]; rfl
  have hR:Fq ρ e o:=by
   intro y hy;cases y with
   | tmp s =>
    refine hrd s (ϐ _ ?_);rw[Ō];exact⟨.tmp s,by simpa using hy,I⟩
   | const _=>intro i y h; cases h
   | global _=>intro i y h; cases h
   | func _=>intro i y h; cases h
  have hds:=hdst o (List.mem_of_getElem? hoi);obtain⟨d,hd1⟩:=į.1 hds;have hmem':Mem w' (jO bl vs):=S.JJ.ext hC;have needs:∀s:List Nat,s.all (λq=>(Sx.waits os.toArray o).contains q&&(os.take m).any (λo=>o.dst==some q))=true->oI U (xT T (Θ ρ)) w' s:=by
   intro s hsub;refine Kz λq hq K hK=>?_;rw[ø]at hsub;have hq2:=hsub q hq;rw[æ]at hq2;have hq3:q∈Sx.waits os.toArray o:=by simpa using hq2.1
   unfold Sx.waits at hq3;rw[Ō]at hq3;obtain⟨g,hg2,hg3⟩:=hq3;split at hg3
   .rename_i hb;have hlt:g.on<m:=by
     have:=ok.back i o hi (by simpa using ho) g (by simpa using hg2) hb;omega
    have hlt2:g.on<os.length:=by have:=ok.le; simp at this; omega
    have ho':(os.take m)[g.on]?=some os[g.on]:=by rw[List.getElem?_take_of_lt hlt]; simp[hlt2]
    have hdq:os[g.on].dst=some q:=by
     have:os.toArray[g.on]?=some os[g.on]:=by simp[hlt2]
     rw[this]at hg3; exact hg3
    have h4:=EC ρ w' o Yd g hg2 hb _ ho';rw[hdq]at h4;have h5:∃t,(yC U (os.take m) ts).getD g.on top=fx U os[g.on] t:=by
     obtain⟨e9,p9,ks9,ks8,r9,L9,v9,k9,_,_,_,_,_,hT9,_⟩:=hpt g.on _ ho';obtain⟨t9,_,h9⟩:=qK ho' hT9;exact⟨t9,by simp[List.getD,h9]⟩
    obtain⟨t,h5⟩:=h5;rw[h5]at h4;unfold fx at h4;rw[hdq]at h4;simp only[hK]at h4;rw[hxr ρ w' q K (hUn q K hK) hK h4];exact h4
   cases hg3
  have main:jL e p=true->Does P o ρ w' (λu w''=>Ext w' w''∧fx U o t0 (kept o u) w''):=by
   intro hG;have hg:=Eu h1 aiU hR hG hmem' hkl;cases r with
   | val u =>
    obtain⟨rfl,rfl⟩:=hr;refine QH hg ô ?_;rw[yB hds];unfold pT at G7;unfold fx;rw[hd1]at G7 |-;simp only at G7 |-;cases hl:U.lookup d with
    | some K=>rw[hl]at G7; simp at G7
    | none =>
     rw[hl]at G7;simp only at G7;rw[<-G7];show u=_root_.cond (jL e p) u undef;rw[hG]; rfl
   | enter f args =>
    obtain⟨rfl,hmC⟩:=hr;obtain⟨d',s,hd2,hsub,hcall⟩:=ZK (hO _) Xq hC5 _ hmC;simp only at hd2 hsub hcall;rw[hd1]at hd2;obtain rfl:=Ü hd2;refine yF hg ((hcall w' hC hG (needs s hsub)).mono λe2 w2 hk2=>?_);obtain⟨u,rfl,hpost,hE⟩:=hk2;refine⟨u,I,hE,?_⟩;rw[yB hds];unfold pT at G7;unfold fx;unfold agA at hpost;rw[hd1]at G7 |-;simp only at G7 |-;cases hl:U.lookup d with
    | some K=>rw[hl]at hpost; exact hpost
    | none =>
     rw[hl]at hpost G7;simp only at hpost G7;rw[<-G7];show u=_root_.cond (jL e p) v undef;rw[hG,hpost]; rfl
   | new =>
    rcases Qj (Qk h1)with ⟨d',A0,sh,r0,A,v',ty,kk,e1,hd2,rfl,hev,hv,hsel,apa⟩ | ⟨d',kv,e1,hd2,rfl,hkv⟩
    .rw[hd1]at hd2;obtain rfl:=Ü hd2;have hin:Key.new d A0 sh r0∈ks w'.heap.size:=hks _ (by rw[e1]; simp);obtain⟨hr0,hlk⟩:=Ų.mem (hN _) hin;obtain⟨kl,e2,e3,_⟩:=hkl;have e4:kl=[.new d A0 sh r0]:=BA (ks':=ϋ) (by rw[<-e1]; exact e2);rw[e4]at e3;simp only[Ē,ŀ,wJ,ģ,and_true,Loc.new.injEq]at e3;obtain⟨rfl,rfl⟩:=e3;subst hr0;have hc:Ù ρ o=Ù (zi e p) o:=by
      refine execOp_congr o (λcs b e1=>by rw[e1]at hsel; cases hsel) λy hy=>?_;rw[ϑ]at apa;obtain⟨z,hz⟩:=į.1 (apa y hy);rw[gK aiU (hR y hy) hG hz];simp[zi,hz]
     have hrun:(Ù ρ o).run P w' = .ok (.value (Z5 sh w'.heap.size)) (w'.alloc (.cells A.toArray ty)):=by rw[hc,nD hev,nY hv]
     refine agO hrun (aH _ _) ?_;rw[yB hds];unfold fx;rw[hd1];simp only[hlk];exact⟨w'.heap.size,I,hC.size,Hl _ _ _⟩
    rw[hd1]at hd2;obtain rfl:=Ü hd2;have hin:Key.hand d kv∈ks w'.heap.size:=hks _ (by rw[e1]; simp);obtain⟨q,hq,Xf,hdo⟩:=(hH (xT T (Θ ρ)) w'.heap.size).get (ό w'.heap.size) hin;have apb:∀z∈kv,ρ (.tmp z.1)=z.2:=by
     obtain⟨kl,e2,e3,_⟩:=hkl;have e4:kl=[.hand d kv]:=BA (ks':=ϋ) (by rw[<-e1]; exact e2);rw[e4]at e3;simp only[Ē,ŀ,wJ,ģ,and_true,Loc.hand.injEq]at e3;intro z hz;exact gK aiU (hR _ (hkv z hz)) hG (azj.1 e3 z hz)
    unfold JL at hHB;rw[ø]at hHB;have h9:=hHB q hq;cases hoq:os[q.1]? with
    | none=>rw[hoq]at h9; cases h9
    | some o2 =>
     rw[hoq]at h9 Xf;have atC:o2.dst=some d:=Xf;simp only[atC,æ,ø]at h9;obtain⟨⟨h10,h11⟩,h12⟩:=h9;have hqi:i=q.1:=by
      have:=h12 _ (yY hoi);simpa[hd1]using this
     have ho2:o2=o:=by rw[<-hqi,ho]at hoq; exact(Ü hoq).symm
     subst ho2;have h13:=hdo o2 hoq ρ w' aiU hC (λs hs hl=>by unfold xT; rw[hl]; simp only; unfold Θ; rw[İ hs]) apb (needs q.2 (by rw[ø]; simpa using h11));obtain⟨K,hK⟩:=į.1 h10;unfold Does at h13 |-;refine h13.mono λu w'' hu=>⟨hu.1,?_⟩;have LY:=hu.2;unfold hpost at LY;unfold fx;rw[hd1]at LY |-;simp only[hK]at LY |-;exact LY
  cases hg:o.guard with
  | none =>
   unfold pathOf at hp;rw[hg]at hp;obtain rfl:=Ü hp;exact main I
  | some gb =>
   obtain⟨g,b⟩:=gb;have hiff:Rel.valOf ρ ((os.toArray[g]?).bind (·.dst)) = .b b↔jL e p=true:=by
    unfold pathOf at hp;rw[hg]at hp;simp only at hp;cases hs':(os.toArray[g]?).bind (·.dst)with
    | none=>rw[hs']at hp; cases hp
    | some s =>
     rw[hs']at hp;simp only at hp;have hR1:ZH ρ e (.tmp s):=hrd s (Ş _ (by rw[hg]; simp only; rw[hs']; exact Ā.2 I));cases hl:e.lookup s with
     | none=>simp[hl]at hp
     | some x =>
      obtain⟨q,u⟩:=x;have hv:=hR1 s _ I hl;cases u<;>simp only[hl]at hp<;>try (cases hp)
      rename_i t;show ρ (.tmp s)=_↔_;rw[hv,uK];unfold den tst;rw[hl];simp only;cases jL e q<;>cases b<;>cases t<;>simp[undef]
   refine⟨λhv=>main (hiff.1 hv),λhv=>?_⟩;have hGf:jL e p=false:=by
    cases h:jL e p with
    | false=>rfl
    | true=>exact absurd (hiff.2 h) hv
   unfold pT at G7;unfold fx;rw[hd1]at G7 |-;simp only at G7 |-;cases hl:U.lookup d with
   | some K =>
    rw[hl]at G7;simp only[Ô]at G7;rw[hGf]at G7; cases G7.1
   | none =>
    rw[hl]at G7;simp only at G7;rw[<-G7];show undef=_root_.cond (jL e p) v undef;rw[hGf]; rfl
 intro a' w' hC hd' hsz' hfact hOut hap;obtain⟨e',C,Xq,hC5,hnew,⟨L,TT,hex⟩,hpt,htr⟩:=trace (Θ a'.eval) 0;have hH:Holds a'.eval e':=by
  intro s y hl;refine agC (x:=xT T (Θ a'.eval)) (w:=w') (λs K hK hk=>hxr a'.eval w' s K (hUn s K hK) hK hk) htr hl (λj oj hj hoj hdj=>?_) λhno h3=>?_
  .have:=hfact j oj hoj;rw[hdj]at this;exact this
  have hall:(os.take m).all (λo => !(o.dst==some s))=true:=by
   rw[ø];intro oj hoj;obtain⟨j,hj⟩:=List.getElem?_of_mem hoj;simp only[ś,ä];exact hno j oj (List.getElem?_eq_some_iff.1 hj).1 hj
  obtain⟨h4,h5⟩:=hl0 s y h3;rw[hOut s hall,h5];unfold den;rw[h4]; rfl
 refine next a' w' (Θ a'.eval) hC (Kz λd hdm K hK=>?_) (λp hp q hq hne=>?_) ((S.grow hC).act (G6 hex hnew (hs _) (by rw[hsz',hsz]) (by rw[hd',S.s.defers]) hH))
 .rw[ø]at hD0;have:=hD0 d hdm;rw[ay9]at this;obtain⟨o,ho,hdo⟩:=this;have atD:o.dst=some d:=by simpa using hdo
  obtain⟨j,hj⟩:=List.getElem?_of_mem ho;have h4:=hfact j o hj;obtain⟨e9,p9,ks9,ks8,r9,L9,v9,k9,_,_,_,_,_,hT9,_⟩:=hpt j o hj;obtain⟨t9,_,h9⟩:=qK hj hT9;have h5:(yC U (os.take m) ts).getD j top=fx U o t9:=by simp[List.getD,h9]
  rw[h5]at h4;unfold fx at h4;rw[atD]at h4;simp only[hK]at h4;rw[hxr a'.eval w' d K (hUn d K hK) hK h4];exact h4
 obtain⟨o1,t1,c1,h1,h2,h3,h4,h5,h6⟩:=hal p hp;obtain⟨o2,t2,c2,k1,k2,k3,k4,k5,k6⟩:=hal q hq;have f1:=hfact _ _ h1;have f2:=hfact _ _ k1;rw[h6,h3]at f1;rw[k6,k3]at f2;rw[hxr a'.eval w' p.2 _ (hUn _ _ h5) h5 f1,hxr a'.eval w' q.2 _ (hUn _ _ k5) k5 f2];have lt:∀{i:Nat} {o:Ì},(os.take m)[i]?=some o->i<m:=λh=>by
  have:=(List.getElem?_eq_some_iff.1 h).1;simp at this; omega
 have h7:=hap p.1 (Ć.2 ⟨p,hp,I⟩) q.1 (Ć.2 ⟨q,hq,I⟩) (λe=>by
  rw[e]at h1;rw[k1]at h1;obtain rfl:=Ü h1;rw[h3]at k3;exact hne (Ü k3)) (lt h1) (lt k1) o1 o2 (hops _ _ h1) (hops _ _ k1)
 rw[h3,k3]at h7;exact h7
abbrev amM(T:List (Nat×Nat))(S:St w0 a w n l bl vs)(m:Nat)(U:Ar)(ks:Nat->List Key)(cs:(Nat->À)->List À)(cl:(Nat->À)->List ClX)(ns:List (List Nat))(new:(Nat->À)->List (Nat×À))
  (hU:Dw U) (hO:∀x,Ui P w U x (cl x) ns)
  (next:∀a' w' y,Ext w w'->oI U (xT T y) w' (U.map (·.1))->St w0 a' w' n (new (xT T y)++l) bl vs->Ð P os.toArray Q (os.drop m) a' w')
  (hN:∀r,Ų U w.heap.size r (ks r):=by intro r; exact G) (hk:∀r,nT True P (ks r):=by intro r; exact G)
  (hD0:(U.map (·.1)).all (λd=>(os.take m).any (λo=>o.dst==some d))=true:=by kernel_rfl)
  (hB:okB os.toArray m n=true:=by kernel_rfl) (hD:sG os.toArray (os.take m)=true:=by kernel_rfl)
  (hl:Hnd:=[]) (hH:∀x r,pY P w U T x os hl (ks r):=by intro x r; exact G) (ό:∀r,yj os hl (ks r)=true:=by intro r; kernel_rfl) (hHB:JL os m U hl=true:=by kernel_rfl)
  (hT:∀p∈T,∀K,U.lookup p.1=some K->∀v w,K v w->∃a:Array À,v = .tuple a∧a.size=p.2:=by intro p hp; cases hp) (hx:∀y r,(exec P (jO bl vs) os.toArray n (os.take m) (lift l) (ks r) (cs (xT T y))).map (XG (os.take m) U ns (new (xT T y)))=some ((new (xT T y)).map (λp=>some ([],p.2)),(ks r).map (wJ (jO bl vs)),(cl (xT T y)).map clX,patch U (xT T y) (os.take m) (tv (exec P (jO bl vs) os.toArray n (os.take m) (lift l) (ks 0) (cs λ_=>undef))),true):=by intro y r; kernel_rfl) (hs:∀y,sF (os.take m) l (new (xT T y))=true:=by intro y; kernel_rfl) (hn:(decide (n<=1000)&&(U.map (·.1)).all λd=>decide (d<n))=true:=by kernel_rfl):ď P .any os.toArray Q os.toArray.size (Array.replicate os.toArray.size false) a { w with drawn:=w.drawn+1 }:=
 agD T [] S m U ks cs cl ns new hU hO (λa' w' y h1 h2 _ h3=>next a' w' y h1 h2 h3) G hN hk hD0 hB hD hl hH ό hHB hT hx hs hn
abbrev N7(A:List (Nat×Nat))(S:St w0 a w n l bl vs)(m:Nat)(U:Ar)(ks:Nat->List Key)(cs:(Nat->À)->List À)(cl:(Nat->À)->List ClX)(ns:List (List Nat))(new:(Nat->À)->List (Nat×À))
  (hU:Dw U) (hO:∀x,Ui P w U x (cl x) ns)
  (next:∀a' w' x,Ext w w'->oI U x w' (U.map (·.1))->(∀p∈A,∀q∈A,p.2≠q.2->x p.2≠x q.2)->St w0 a' w' n (new x++l) bl vs->Ð P os.toArray Q (os.drop m) a' w')
  (hA:ace (os.take m) U w.heap.size A) (hN:∀r,Ų U w.heap.size r (ks r):=by intro r; exact G) (hk:∀r,nT True P (ks r):=by intro r; exact G)
  (hD0:(U.map (·.1)).all (λd=>(os.take m).any (λo=>o.dst==some d))=true:=by kernel_rfl)
  (hB:okB os.toArray m n=true:=by kernel_rfl) (hD:sG os.toArray (os.take m)=true:=by kernel_rfl)
  (hl:Hnd:=[]) (hH:∀x r,pY P w U [] x os hl (ks r):=by intro x r; exact G) (ό:∀r,yj os hl (ks r)=true:=by intro r; kernel_rfl) (hHB:JL os m U hl=true:=by kernel_rfl)
  (hx:∀y r,(exec P (jO bl vs) os.toArray n (os.take m) (lift l) (ks r) (cs y)).map (XG (os.take m) U ns (new y))=some ((new y).map (λp=>some ([],p.2)),(ks r).map (wJ (jO bl vs)),(cl y).map clX,patch U y (os.take m) (tv (exec P (jO bl vs) os.toArray n (os.take m) (lift l) (ks 0) (cs λ_=>undef))),true):=by intro y r; kernel_rfl) (hs:∀y,sF (os.take m) l (new y)=true:=by intro y; kernel_rfl) (hn:(decide (n<=1000)&&(U.map (·.1)).all λd=>decide (d<n))=true:=by kernel_rfl):ď P .any os.toArray Q os.toArray.size (Array.replicate os.toArray.size false) a { w with drawn:=w.drawn+1 }:=
 agD [] A S m U ks cs cl ns new hU hO next hA hN hk hD0 hB hD hl hH ό hHB (λp hp=>by cases hp) hx hs hn
abbrev qY(S:St w0 a w n l bl vs)(m:Nat)(U:Ar)(ks:Nat->List Key)(cs:(Nat->À)->List À)(cl:(Nat->À)->List ClX)(ns:List (List Nat))(new:(Nat->À)->List (Nat×À))
  (hU:Dw U) (hO:∀x,Ui P w U x (cl x) ns)
  (next:∀a' w' x,Ext w w'->oI U x w' (U.map (·.1))->St w0 a' w' n (new x++l) bl vs->Ð P os.toArray Q (os.drop m) a' w')
  (hN:∀r,Ų U w.heap.size r (ks r):=by intro r; exact G) (hk:∀r,nT True P (ks r):=by intro r; exact G)
  (hD0:(U.map (·.1)).all (λd=>(os.take m).any (λo=>o.dst==some d))=true:=by kernel_rfl)
  (hB:okB os.toArray m n=true:=by kernel_rfl) (hD:sG os.toArray (os.take m)=true:=by kernel_rfl)
  (hl:Hnd:=[]) (hH:∀x r,pY P w U [] x os hl (ks r):=by intro x r; exact G) (ό:∀r,yj os hl (ks r)=true:=by intro r; kernel_rfl) (hHB:JL os m U hl=true:=by kernel_rfl)
  (hx:∀y r,(exec P (jO bl vs) os.toArray n (os.take m) (lift l) (ks r) (cs y)).map (XG (os.take m) U ns (new y))=some ((new y).map (λp=>some ([],p.2)),(ks r).map (wJ (jO bl vs)),(cl y).map clX,patch U y (os.take m) (tv (exec P (jO bl vs) os.toArray n (os.take m) (lift l) (ks 0) (cs λ_=>undef))),true):=by intro y r; kernel_rfl) (hs:∀y,sF (os.take m) l (new y)=true:=by intro y; kernel_rfl) (hn:(decide (n<=1000)&&(U.map (·.1)).all λd=>decide (d<n))=true:=by kernel_rfl):ď P .any os.toArray Q os.toArray.size (Array.replicate os.toArray.size false) a { w with drawn:=w.drawn+1 }:=
 amM [] S m U ks cs cl ns new hU hO next hN hk hD0 hB hD hl hH ό hHB (λp hp=>by cases hp) hx hs hn
abbrev ug(S:St w0 a w n l bl vs){id:Nat}(m:Nat)(U:Ar)(ks:Nat->List Key)(cs:(Nat->À)->List À)(cl:(Nat->À)->List ClX)(ns:List (List Nat))(new:(Nat->À)->List (Nat×À))
  (hU:Dw U) (hO:∀x,Ui P w U x (cl x) ns)
  (next:∀a' w' x,Ext w w'->oI U x w' (U.map (·.1))->St w0 a' w' n (new x++l) bl vs->Ð P os.toArray Q (os.drop m) a' w')
  (hN:∀r,Ų U w.heap.size r (ks r):=by intro r; exact G) (hk:∀r,nT True P (ks r):=by intro r; exact G)
  (hD0:(U.map (·.1)).all (λd=>(os.take m).any (λo=>o.dst==some d))=true:=by kernel_rfl)
  (hmo:P.follows .mixedOrders=true:=by kernel_rfl) (hB:okB os.toArray m n=true:=by kernel_rfl) (hD:sG os.toArray (os.take m)=true:=by kernel_rfl)
  (hl:Hnd:=[]) (hH:∀x r,pY P w U [] x os hl (ks r):=by intro x r; exact G) (ό:∀r,yj os hl (ks r)=true:=by intro r; kernel_rfl) (hHB:JL os m U hl=true:=by kernel_rfl)
  (hx:∀y r,(exec P (jO bl vs) os.toArray n (os.take m) (lift l) (ks r) (cs y)).map (XG (os.take m) U ns (new y))=some ((new y).map (λp=>some ([],p.2)),(ks r).map (wJ (jO bl vs)),(cl y).map clX,patch U y (os.take m) (tv (exec P (jO bl vs) os.toArray n (os.take m) (lift l) (ks 0) (cs λ_=>undef))),true):=by intro y r; kernel_rfl) (hs:∀y,sF (os.take m) l (new y)=true:=by intro y; kernel_rfl) (hn:(decide (n<=1000)&&(U.map (·.1)).all λd=>decide (d<n))=true:=by kernel_rfl):(Code.region id os.toArray true).wp P Q a w:=
 š hmo (qY S m U ks cs cl ns new hU hO next hN hk hD0 hB hD hl hH ό hHB hx hs hn)
end
end Go.Sx
abbrev Ç:=@Go.Sx.rn
abbrev Ê:=@Go.Sx.done
abbrev Î:=@Go.Sx.aX
abbrev Ö:=@Go.Sx.aO
abbrev ą:=@Go.Sx.wrap_succ
abbrev Č:=@Go.Sx.cond
abbrev Đ:=@Go.Sx.same
abbrev ħ:=@Go.Sx.eH
abbrev ī:=@Go.Sx.oQ
abbrev Ĭ:=@Go.Sx.store
abbrev Ŗ:=@Go.Sx.enter
abbrev ŝ:=@Go.Sx.store1
abbrev Ţ:=@Go.Sx.draw
