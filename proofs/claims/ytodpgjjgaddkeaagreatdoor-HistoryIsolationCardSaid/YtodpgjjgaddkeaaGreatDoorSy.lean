/- The walk by reckoning: what an -/
import Derived.Test.YtodpgjjgaddkeaaGreatDoorSx
import Derived.KernelRfl
set_option linter.unusedVariables false
set_option linter.unusedSimpArgs false
set_option maxHeartbeats 9999999
open Go renaming World->E5,Value->y9,Calls->Nq,Program->Ë,Oper->YM,wpList->Ã,TypeId->Ð,execOp->Í,Operand->î,Ending->ĺ,wpAny->Đ,bodyPost->Ĩ
namespace Go.Sx
open Go.Proofs.Õ Go.RowKit Go.Rel Go.Vp
structure St (w0:E5) (a:Act) (w:E5) (n:Nat) (l:List (Nat×y9)) (bl:List (Nat×List y9)) (vs:List eX):Prop where
 s:Vp.St a n l
 E:Ext w0 w
 own:∀p∈bl,Bx w p.1 p.2.toArray∧w0.heap.size<=p.1
 apart:(bl.map (·.1)).Nodup
 mem:∀m∈vs,(m.1<w.heap.size∧w.rangeAt m.1 m.2.1 m.2.2)∧∀p∈bl,p.1≠m.1
def jZ(bl:List (Nat×List y9))(vs:List eX):List eX:=bl.map (λp=>(p.1,0,p.2))++vs
def lift(l:List (Nat×y9)):Env:=l.map λp=>(p.1,[],p.2)
section
variable{P:Ë}{ops:Array YM}{Q:Exit->Act->E5->Prop}{w0:E5}{a:Act}{w:E5}{os:List YM}{n:Nat}{l:List (Nat×y9)}{bl:List (Nat×List y9)}{vs:List eX}
abbrev St.La(S:St w0 a w n l bl vs):Mem w (jZ bl vs):=by
 intro m D;rcases ā.1 D with h | h
 .obtain⟨p,hp,rfl⟩:=ô.1 h;have:=(S.own p hp).1;exact⟨this.1,λj v D=>by
   show w.cell? ⟨p.1,0+j,none⟩=some v;rw[Ī,this.2.1]; simpa using D⟩
 exact(S.mem m h).1
variable{b r off k s:Nat}{v V u:y9}{A cs:List y9}{f:FuncId}{args:Array y9}{y x:Code}{c:î}{ty:Ð}{ks:List Key}{o:YM}{os':List YM}{w1:E5}
abbrev ku(l:List (Nat×y9))(i:Nat):(lift l).lookup i=(l.lookup i).map λv=>([],v):=by
 induction l with
 | nil=>rfl
 | cons p l ih =>
  show List.lookup i ((p.1,[],p.2)::lift l)=_;rw[ĝ,ĝ];cases i==p.1
  .exact ih
  rfl
abbrev bT(h:Vp.St a n l):Holds a.eval (lift l):=by
 intro i x D;rw[ku]at D;cases hl:l.lookup i with
 | none=>simp[hl]at D
 | some v =>
  simp only[hl,ě,Æ]at D;subst D;rw[h.has i v hl]; rfl
abbrev St.grow{w':E5}(S:St w0 a w n l bl vs)(J:Ext w w'):St w0 a w' n l bl vs:=
 ⟨S.s,Ip S.E J,λp hp=>⟨(S.own p hp).1.ext J,(S.own p hp).2⟩,S.apart,λm D =>
  ⟨⟨ö (S.mem m D).1.1 J.size,qP (S.mem m D).1.2 (S.mem m D).1.1 J⟩,(S.mem m D).2⟩⟩
abbrev St.act{D:Act}{J:List (Nat×y9)}(S:St w0 a w n l bl vs)(h:Vp.St D n J):St w0 D w n J bl vs:=⟨h,S.E,S.own,S.apart,S.mem⟩
def cl1(e:Env)(x:qU×y9):qU×y9:=match x.1 with | []=>x | q=>(match jP e q with | true=>([],x.2) | false=>x)
abbrev ais{e:Env}{x:qU×y9}(h:cl1 e x=([],v)):x.2=v∧jP e x.1=true:=by
 obtain⟨q,u⟩:=x;cases q with
 | nil =>
  have h:(([],u):qU×y9)=([],v):=h;simp only[Ê,true_and]at h;exact⟨h,I⟩
 | cons c r =>
  unfold cl1 at h;simp only at h;split at h
  .rename_i hg;simp only[Ê,true_and]at h;exact⟨h,hg⟩
  simp at h
def fin(new:List (Nat×y9))(r:Out):List (Option (qU×y9))×List Loc×List Cl:=(new.map (λp=>(r.1.lookup p.1).map (cl1 r.1)),r.2.1,r.2.2.1.map (·.1))
def runs(P:Ë)(ms:List eX)(ops:Array YM)(n:Nat)(os:List YM)(l:List (Nat×y9))(ks:List Key)(cs:List y9)(new:List (Nat×y9)):=(exec P ms ops n os (lift l) ks cs).map (fin new)
def wants(ms:List eX)(ks:List Key)(cl:List Cl)(new:List (Nat×y9)):Option (List (Option (qU×y9))×List Loc×List Cl):=some (new.map (λp=>some ([],p.2)),ks.map (xq ms),cl)
def sZ(os:List YM)(l new:List (Nat×y9)):Bool:=os.all λo=>match o.dst with | some d=>(new.lookup d).isSome||(l.lookup d).isNone | none=>true
theorem zL{P:Ë}{ms:List eX}{ops:Array YM}{n:Nat}{i:Nat}:∀(os:List YM) {e e':Env} {ks:List Key} {L:List Loc} {C:List Ũ} {T:List T3} {cs:List y9},
  exec P ms ops n os e ks cs=some (e',L,C,T)->(∀o∈os,o.dst≠some i)->e'.lookup i=e.lookup i
 | [],e,e',ks,L,C,T,cs,hx,_=>by
  unfold exec at hx
  split at hx
  .simp only[Æ,Ê]at hx
   rw[hx.1]
  .cases hx
 | o::os,e,e',ks,L,C,T,cs,hx,hno=>by
  unfold exec at hx
  cases hp:pathOf ops e o with
  | none=>simp[hp]at hx
  | some p =>
   simp only[hp]at hx
   have D:∀v,(put e o.dst p v).lookup i=e.lookup i:=by
    intro v
    have:=hno o Y
    cases hd:o.dst with
    | none=>rfl
    | some d =>
     have J:(i==d)=false:=by
      rw[hd]at this
      simp only[ne_eq,Æ]at this
      simpa using λh:i=d=>this h.symm
     simp only[put,ĝ,J]
   split at hx
   .split at hx
    .rename_i v ks' L1 _ _ _ _ _ _ hx'
     simp only[Æ,Ê]at hx
     obtain⟨rfl,-⟩:=hx
     rw[zL os hx' λo J=>hno o (by simp[J]),D]
    .cases hx
   .split at hx
    .split at hx
     .rename_i hx'
      simp only[Æ,Ê]at hx
      obtain⟨rfl,-⟩:=hx
      rw[zL os hx' λo J=>hno o (by simp[J]),D]
     .cases hx
    .cases hx
   .split at hx
    .split at hx
     .rename_i hx'
      simp only[Æ,Ê]at hx
      obtain⟨rfl,-⟩:=hx
      rw[zL os hx' λo J=>hno o (by simp[J]),D]
     .cases hx
    .cases hx
   .cases hx
abbrev FC{ms:List eX}{cl:List Cl}{new:List (Nat×y9)}(h:runs P ms ops n os l ks cs new=wants ms ks cl new) :
  ∃D T C,exec P ms ops n os (lift l) ks cs=some (D,ks.map (xq ms),C,T)∧C.map (·.1)=cl∧∀i v,new.lookup i=some v->∃q,D.lookup i=some (q,v)∧jP D q=true:=by
 unfold runs wants at h;cases hx:exec P ms ops n os (lift l) ks cs with
 | none=>simp[hx]at h
 | some r =>
  obtain⟨D,L,C,T⟩:=r;simp only[hx,ě,fin,Æ,Ê]at h;obtain⟨J,rfl,rfl⟩:=h;refine⟨D,T,C,I,I,λi v hl=>?_⟩;have D:(i,v)∈new:=by
   clear J;induction new with
   | nil=>simp at hl
   | cons p new ih =>
    rw[ĝ]at hl;by_cases hi:i=p.1
    .subst hi;simp only[Ų,Æ]at hl;subst hl; simp
    have S:(i==p.1)=false:=by simpa using hi
    rw[S]at hl;exact ļ _ (ih hl)
  have:=aG6.1 J (i,v) D;simp only[Option.map_eq_some_iff]at this;obtain⟨x,D,J⟩:=this;obtain⟨S,h6⟩:=ais J;exact⟨x.1,by rw[D,<-S],h6⟩
abbrev ZW{new:List (Nat×y9)}{i:Nat}(h:(new++l).lookup i=some v):new.lookup i=some v∨(new.lookup i=none∧l.lookup i=some v):=by
 induction new with
 | nil=>exact .inr ⟨I,h⟩
 | cons p new ih =>
  rw[Ĵ,ĝ]at h;rw[ĝ];cases hi:i==p.1
  .rw[hi]at h; exact ih h
  rw[hi]at h; exact .inl h
abbrev Io{ms:List eX}{D:Env}{L:List Loc}{C:List Ũ}{T:List T3}{new:List (Nat×y9)}(hx:exec P ms ops n os (lift l) ks cs=some (D,L,C,T))(hn:∀i v,new.lookup i=some v->∃q,D.lookup i=some (q,v)∧jP D q=true)(hk:sZ os l new=true)
  {J:Act} (S:J.tmps.size=n) (hd:J.defers=[]) (hh:Holds J.eval D):Vp.St J n (new++l):=by
 refine⟨S,hd,λi v hl=>?_⟩;rcases ZW hl with h | ⟨S,J⟩
 .obtain⟨q,h3,h4⟩:=hn i v h;rw[hh i _ h3];show _root_.cond (jP D q) v undef=v;rw[h4]; rfl
 have:∀o∈os,o.dst≠some i:=by
  intro o D hd;unfold sZ at hk;rw[ñ]at hk;have:=hk o D;rw[hd]at this;simp[S,J]at this
 have D:=zL (i:=i) os hx this;rw[ku,J]at D;rw[hh i _ D]; rfl
abbrev run(S:St w0 a w n l bl vs)(k:Nat)(ks:List Key)(new:List (Nat×y9))(next:∀D,St w0 D w n (new++l) bl vs->Ã P ops Q (os.drop k) D w)(hk:Ai P ks:=by exact G)
  (hx:runs P (jZ bl vs) ops n (os.take k) l ks [] new=wants (jZ bl vs) ks [] new:=by kernel_rfl) (hs:sZ (os.take k) l new=true:=by kernel_rfl):Ã P ops Q os a w:=by
 obtain⟨e',T,C,h1,J,h2⟩:=FC hx;rw[<-ň k os];obtain rfl:C=[]:=by simpa using J
 refine SA _ h1 S.s.size (bT S.s) S.La I hk G λD w' _ hC J hd hh=>?_;obtain rfl:=hC I;exact next D (S.act (Io h1 h2 hs J (by rw[hd,S.s.defers]) hh))
abbrev aeN(S:St w0 a w n l bl vs)(k:Nat)(ks:List Key)(cl:List Cl)(new:List (Nat×y9))(hO:Ŷ P w cl)(next:∀D w',Ext w w'->St w0 D w' n (new++l) bl vs->Ã P ops Q (os.drop k) D w')(hk:Ai P ks:=by exact G)
  (hx:runs P (jZ bl vs) ops n (os.take k) l ks (cl.map (·.2.2.2)) new=wants (jZ bl vs) ks cl new:=by kernel_rfl) (hs:sZ (os.take k) l new=true:=by kernel_rfl):Ã P ops Q os a w:=by
 obtain⟨e',T,C,h1,J,h2⟩:=FC hx;rw[<-ň k os];rw[<-J]at hO;refine SA _ h1 S.s.size (bT S.s) S.La I hk hO λD w' hE _ J hd hh=>?_;exact next D w' hE ((S.grow hE).act (Io h1 h2 hs J (by rw[hd,S.s.defers]) hh))
abbrev draw(S:St w0 a w n l bl vs){id:Nat}(m:Nat)(ks:List Key)(cl:List Cl)(new:List (Nat×y9))(hO:Ŷ P w cl)(next:∀a' w',Ext w w'->St w0 a' w' n (new++l) bl vs->Ã P os.toArray Q (os.drop m) a' w')(hk:Ai P ks:=by exact G)
  (D:runs P (jZ bl vs) os.toArray n (os.take m) l ks (cl.map (·.2.2.2)) new=wants (jZ bl vs) ks cl new:=by kernel_rfl) (hs:sZ (os.take m) l new=true:=by kernel_rfl)
  (ab:P.follows .mixedOrders=true:=by kernel_rfl) (hB:okB os.toArray m n=true:=by kernel_rfl) (hD:tq os.toArray (os.take m)=true:=by kernel_rfl):(Code.region id os.toArray true).wp P Q a w:=by
 obtain⟨e',T,C,h1,J,h2⟩:=FC D;rw[<-J]at hO;have J:∀(j:Nat) o,(os.take m)[j]?=some o->os.toArray[j]?=some o:=λj o h=>by
  rw[List.getElem?_take]at h;split at h
  .simpa using h
  cases h
 have aa:=LX (P:=P) (ops:=os.toArray) (hd:=os.take m) (Ta:=T) (n:=n) (e0:=lift l) (Es:=a.eval) (w0:=w) J hD (bT S.s) (λs x D=>by
  rw[ku]at D;cases hl:l.lookup s with
  | none=>simp[hl]at D
  | some v=>simp only[hl,ě,Æ]at D; rw[<-D]) S.La (os.take m) 0 I I (λs x D => .inr ⟨λj o J=>by omega,D⟩) h1 I hk hO
 refine Rel.wp_region m ab (by rw[S.s.size]; exact hB) Ext (λw'=>Ext w w') (T.map ZV) (below_drewN (ø _ _) 1) (λ_ _ h k=>Ip h k) ?_ aa λw' J=>?_
 .intro T' hT v w1 w2 _ h;obtain⟨x,_,rfl⟩:=ô.1 hT;exact h
 refine WS _ h1 S.s.size (bT S.s) λa' D hd hh=>?_;exact next a' w' J ((S.grow J).act (Io h1 h2 hs D (by rw[hd,S.s.defers]) hh))
abbrev St.ch{w':E5}{b:Nat}{A:List y9}(S:St w0 a w n l bl vs)(hc:Ch b w w'){k:Nat}{A0:List y9}(hk:bl[k]?=some (b,A0))(hb:Bx w' b A.toArray)(hE:Ext w0 w'):St w0 a w' n l (bl.set k (b,A)) vs:=by
 have J:k<bl.length:=(List.getElem?_eq_some_iff.1 hk).1;have D:(b,A0)∈bl:=List.mem_of_getElem? hk;have aa:=S.apart;have ab:(bl.set k (b,A)).map (·.1)=bl.map (·.1):=by
  apply List.ext_getElem?;intro i;rw[List.getElem?_map,List.getElem?_map,List.getElem?_set];by_cases hi:k=i
  .subst hi; rw[Á I,Á J,hk]; rfl
  rw[UQ hi]
 have ae:∀p∈bl.set k (b,A),∃q∈bl,q.1=p.1:=λp hp=>by
  have:p.1∈(bl.set k (b,A)).map (·.1):=ô.2 ⟨p,hp,I⟩;rw[ab]at this;obtain⟨q,hq,he⟩:=ô.1 this;exact⟨q,hq,he⟩
 refine⟨S.s,hE,λp hp=>?_,by rw[ab]; exact aa,λm hm=>⟨?_,λp hp=>?_⟩⟩
 .obtain⟨i,hi⟩:=List.getElem?_of_mem hp;rw[List.getElem?_set]at hi;by_cases hik:k=i
  .subst hik;rw[Á I,Á J]at hi;obtain rfl:=Ò hi;exact⟨hb,(S.own _ D).2⟩
  rw[UQ hik]at hi;have ac:=List.mem_of_getElem? hi;refine⟨(S.own p ac).1.ch hc λe=>hik ?_,(S.own p ac).2⟩;have h1:(bl.map (·.1))[k]?=some b:=by rw[List.getElem?_map,hk]; rfl
  have h2:(bl.map (·.1))[i]?=some b:=by rw[List.getElem?_map,hi]; exact Ñ some e
  exact(List.getElem?_inj (by simpa using J) aa).1 (h1.trans h2.symm)
 .obtain⟨⟨h1,h2⟩,h3⟩:=S.mem m hm;refine⟨ö h1 hc.size,λj v J=>?_⟩;rw[hc.cell (p:=⟨m.1,m.2.1+j,none⟩) h1 (λe=>h3 _ D e.symm)];exact h2 j v J
 obtain⟨q,hq,he⟩:=ae p hp;rw[<-he]; exact(S.mem m hm).2 q hq
def callOf(P:Ë)(os:List YM)(l:List (Nat×y9)):Option (FuncId×Array y9×Option Nat):=
 match os with
 | o::_=>(match o.guard,wP o.op || !o.op.operands.all (λx=>(rd (lift l) [] x).isSome),jd (ev0 P (Í (zQ (lift l) []) o))with
  | none,false,some (.enter f args)=>some (f,args,o.dst)
  | _,_,_=>none)
 | []=>none
def zS(l:List (Nat×y9))(d:Option Nat)(v:y9):List (Nat×y9):=match d with | some d=>(d,v)::l | none=>l
def uG(n:Nat)(d:Option Nat):Bool:=match d with | some d=>decide (d<n) | none=>true
abbrev tC{a:Act}(h:Vp.St a n l){d:Option Nat}(hd:uG n d=true)(v:y9):Vp.St (a.put d v) n (zS l d v):=by
 cases d with
 | none=>exact h
 | some d=>exact h.put d (by simpa[uG]using hd) v
abbrev iW(S:St w0 a w n l bl vs)(d:Option Nat){R:ĺ->E5->Prop}(hc:Nq P f args w R)
  (next:∀e w',R e w'->∃v,e = .R v∧Ext w w'∧∀D,St w0 D w' n (zS l d v) bl vs->Ã P ops Q (os.drop 1) D w')
  (D:callOf P os l=some (f,args,d):=by kernel_rfl) (hd:uG n d=true:=by rfl):Ã P ops Q os a w:=by
 cases os with
 | nil=>cases D
 | cons o os =>
  unfold callOf at D;simp only at D;split at D
  .rename_i f' args' hg hav hev;simp only[Æ,Ê]at D;obtain⟨rfl,rfl,rfl⟩:=D;simp only[Ĕ]at hav;have J:(Í a.eval o).run P w = .ok (.enter f' args') w:=lN (Std.act a) (gG (bT S.s) o) (p:=[]) I hav.1 (by simpa using hav.2) hev;unfold Ã;rw[Á (by simp[Region.wanted,hg])];left;unfold Oper.wp;rw[J];simp only[Oper.upon];refine hc.mono λe w' J=>?_;obtain⟨v,rfl,hE,hn⟩:=next e w' J;exact hn _ ((S.grow hE).act (tC S.s hd v))
  cases D
abbrev alN(S:St w0 a w n l bl vs)(k:Nat)(J:List y9)(d:Option Nat){R:ĺ->E5->Prop}(hk:bl[k]?=some (b,A))(hc:Nq P f args w R)
  (next:∀e w',R e w'->∃v,e = .R v∧Ext w0 w'∧Ch b w w'∧Bx w' b J.toArray∧∀D,St w0 D w' n (zS l d v) (bl.set k (b,J)) vs->Ã P ops Q (os.drop 1) D w')
  (D:callOf P os l=some (f,args,d):=by kernel_rfl) (hd:uG n d=true:=by rfl):Ã P ops Q os a w:=by
 cases os with
 | nil=>cases D
 | cons o os =>
  unfold callOf at D;simp only at D;split at D
  .rename_i f' args' hg hav hev;simp only[Æ,Ê]at D;obtain⟨rfl,rfl,rfl⟩:=D;simp only[Ĕ]at hav;have J:(Í a.eval o).run P w = .ok (.enter f' args') w:=lN (Std.act a) (gG (bT S.s) o) (p:=[]) I hav.1 (by simpa using hav.2) hev;unfold Ã;rw[Á (by simp[Region.wanted,hg])];left;unfold Oper.wp;rw[J];simp only[Oper.upon];refine hc.mono λe w' J=>?_;obtain⟨v,rfl,hE,hC,hX,hn⟩:=next e w' J;exact hn _ ((S.ch hC hk hX hE).act (tC S.s hd v))
  cases D
abbrev CY(S:St w0 a w n l bl vs)(d:Nat)(J:Nq P f args w (Ï w V))
  (next:∀D w',Ext w w'->St w0 D w' n ((d,V)::l) bl vs->Ã P ops Q (os.drop 1) D w') (hx:callOf P os l=some (f,args,some d):=by kernel_rfl) (hd:uG n (some d)=true:=by rfl):Ã P ops Q os a w:=
 iW S (some d) J (λe w' h=>⟨V,h.1,h.2,λD=>next D w' h.2⟩) hx hd
abbrev calls(S:St w0 a w n l bl vs)(d:Nat)(J:Nq P f args w λe w'=>e = .R V∧w=w')
  (next:∀D,St w0 D w n ((d,V)::l) bl vs->Ã P ops Q (os.drop 1) D w) (hx:callOf P os l=some (f,args,some d):=by kernel_rfl) (hd:uG n (some d)=true:=by rfl):Ã P ops Q os a w:=
 iW S (some d) J (λe w' h=>⟨V,h.1,by rw[h.2]; exact å,λD s=>by obtain⟨-,rfl⟩:=h; exact next D s⟩) hx hd
def Gx(P:Ë)(r:Nat)(os:List YM)(l:List (Nat×y9)):Option (List y9×y9×Option Nat):=
 match os with
 | o::_=>(match o.guard,wP o.op || !o.op.operands.all (λx=>(rd (lift l) [] x).isSome),Gv P r (Í (zQ (lift l) []) o)with
  | none,false,some (A,_,k)=>(match jd (ev0 P k)with | some (.val v)=>some (A,v,o.dst) | _=>none)
  | _,_,_=>none)
 | []=>none
abbrev new(S:St w0 a w n l bl vs)(d:Nat)(A:List y9)(V:Nat->y9)(next:∀D w' b,Ext w w'->b=w.heap.size->St w0 D w' n ((d,V b)::l) ((b,A)::bl) vs->Ã P ops Q (os.drop 1) D w')
  (D:∀r,Gx P r os l=some (A,V r,some d):=by intro r; kernel_rfl) (hd:uG n (some d)=true:=by rfl):Ã P ops Q os a w:=by
 have D:=D w.heap.size;cases os with
 | nil=>cases D
 | cons o os =>
  unfold Gx at D;simp only at D;split at D
  .rename_i A' ty k hg hav hev;split at D
   .rename_i v J;simp only[Æ,Ê]at D;obtain⟨rfl,rfl,aa⟩:=D;simp only[Ĕ]at hav;have hc:Í a.eval o=Í (zQ (lift l) []) o:=by
     refine execOp_congr o (λcs b e1=>by rw[e1]at hav; cases hav.1) λx D=>?_;have h2:=hav.2;simp only[Ň,Κ]at h2;obtain⟨v,J⟩:=Į.1 (h2 x D);rw[gB (Std.act a) (gG (bT S.s) o x D) (p:=[]) I J];simp[zQ,J]
    have ab:ev0 P k=some (.value (V w.heap.size)):=by
     unfold jd at J;split at J
     .rename_i h; obtain h2:=Ò J; rw[h]; simp only[GH.val.injEq]at h2; rw[h2]
     .cases J
     cases J
    have J:(Í a.eval o).run P w = .ok (.value (V w.heap.size)) (w.alloc (.cells A'.toArray ty)):=by rw[hc,nK hev,oI ab]
    unfold Ã;rw[Á (by simp[Region.wanted,hg])];left;unfold Oper.wp;rw[J];simp only[Oper.upon];have hE:Ext w (w.alloc (.cells A'.toArray ty)):=aI _ _;have S1:=S.grow hE;have ac:∀p∈bl,p.1<w.heap.size:=λp J=>(S.own p J).1.1;rw[aa];refine next _ _ w.heap.size hE I ⟨tC S.s hd _,S1.E,λp J=>?_,?_,λm hm=>⟨(S1.mem m hm).1,λp J=>?_⟩⟩
    .rcases Ù.1 J with rfl | J
     .exact⟨Iz w _ _,S.E.size⟩
     exact S1.own p J
    .rw[đ,Ż];refine⟨λhm=>?_,S.apart⟩;obtain⟨p,J,ae⟩:=ô.1 hm;have:=ac p J;simp only at ae;omega
    rcases Ù.1 J with rfl | J
    .have:=(S.mem m hm).1.1; simp only; omega
    exact(S1.mem m hm).2 p J
   cases D
  cases D
abbrev aif(S:St w0 a w n l bl vs)(d:Nat)(A:List y9)(ty:Ð)(V:Nat->y9)(ac:os=o::os')(hg:o.guard=none)(J:o.dst=some d)
  (D:(Í a.eval o).run P w = .ok (.value (V w.heap.size)) (w.alloc (.cells A.toArray ty))) (next:∀a' w' b,Ext w w'->b=w.heap.size->St w0 a' w' n ((d,V b)::l) ((b,A)::bl) vs->Ã P ops Q (os.drop 1) a' w')
  (hd:uG n (some d)=true:=by rfl):Ã P ops Q os a w:=by
 subst ac;unfold Ã;rw[Á (by simp[Region.wanted,hg])];left;unfold Oper.wp;rw[D];simp only[Oper.upon];have hE:Ext w (w.alloc (.cells A.toArray ty)):=aI _ _;have S1:=S.grow hE;have aa:∀p∈bl,p.1<w.heap.size:=λp D=>(S.own p D).1.1;rw[J];refine next _ _ w.heap.size hE I ⟨tC S.s hd _,S1.E,λp D=>?_,?_,λm J=>⟨(S1.mem m J).1,λp D=>?_⟩⟩
 .rcases Ù.1 D with rfl | D
  .exact⟨Iz w _ _,S.E.size⟩
  exact S1.own p D
 .rw[đ,Ż];refine⟨λJ=>?_,S.apart⟩;obtain⟨p,D,ab⟩:=ô.1 J;have:=aa p D;simp only at ab;omega
 rcases Ù.1 D with rfl | D
 .have:=(S.mem m J).1.1; simp only; omega
 exact(S1.mem m J).2 p D
abbrev lD(S:St w0 a w n l bl vs)(d:Nat)(A:List y9)(next:∀D w' b,Ext w w'->b=w.heap.size->St w0 D w' n ((d,.q b 0)::l) ((b,A)::bl) vs->Ã P ops Q (os.drop 1) D w')
  (D:∀r,Gx P r os l=some (A,.q r 0,some d):=by intro r; kernel_rfl) (hd:uG n (some d)=true:=by rfl):Ã P ops Q os a w:=new S d A _ next D hd
abbrev news(S:St w0 a w n l bl vs)(d m:Nat)(A:List y9)(next:∀D w' b,Ext w w'->b=w.heap.size->St w0 D w' n ((d,.s (some ⟨b,0,none⟩) m m)::l) ((b,A)::bl) vs->Ã P ops Q (os.drop 1) D w')
  (D:∀r,Gx P r os l=some (A,.s (some ⟨r,0,none⟩) m m,some d):=by intro r; kernel_rfl) (hd:uG n (some d)=true:=by rfl):Ã P ops Q os a w:=new S d A (λb => .s (some ⟨b,0,none⟩) m m) next D hd
def lC(P:Ë)(os:List YM)(l:List (Nat×y9)):Option (Nat×Nat×y9×Nat):=
 match os with
 | o::_=>(match o.guard,o.dst,o.op with
  | none,none,.store ty x y=>(match rd (lift l) [] x,rd (lift l) [] y,P.info? ty with
   | some (.q b off),some v,some i=>some (b,off,v,i.size)
   | _,_,_=>none)
  | _,_,_=>none)
 | []=>none
abbrev oP{os:List YM}(h:lC P os l=some (b,off,v,k)):∃o os' ty x y,os=o::os'∧o.guard=none∧o.dst=none∧o.op = .store ty x y∧rd (lift l) [] x=some (.q b off)∧rd (lift l) [] y=some v∧(P.info? ty).map (·.size)=some k:=by
 cases os with
 | nil=>cases h
 | cons o os =>
  unfold lC at h;simp only at h;split at h
  .rename_i ty x y hg hd hop;split at h
   .rename_i b' off' v' i hx hy hi;simp only[Æ,Ê]at h;obtain⟨rfl,rfl,rfl,rfl⟩:=h;exact⟨o,os,ty,x,y,I,hg,hd,hop,hx,hy,by rw[hi]; rfl⟩
   cases h
  cases h
def spl(A:List y9)(off:Nat)(cs:List y9):List y9:=A.take off++cs++A.drop (off+cs.length)
abbrev YG{w:E5}(h:Bx w b A.toArray)(o:Nat)(vs:List y9)(hn:o+vs.length<=A.length):Bx (w.setCells b o vs) b (spl A o vs).toArray:=by
 have D:w.there b o vs.length:=λj J=>by
  rw[h.2.1,h.F,Array.getElem?_eq_getElem (by simp; omega)]; exact⟨I,I⟩
 have hl:(A.take o).length=o:=by simp; omega
 unfold spl;refine⟨by rw[size_setCells]; exact h.1,λi=>?_,λi=>by rw[qm]; exact h.F i⟩;by_cases h1:i<o
 .rw[lJ b vs o w i (.inl h1),h.2.1];simp only[List.getElem?_toArray];rw[ç,List.getElem?_append_left Z,List.getElem?_take_of_lt h1]
 by_cases h2:i<o+vs.length
 .obtain⟨j,rfl⟩:∃j,i=o+j:=⟨i-o,Z⟩;have:=World.rangeAt_setCells_same w b o vs D j (vs[j]'Z) Y;rw[this];simp only[List.getElem?_toArray];rw[List.getElem?_append_left (by simp; omega),List.getElem?_append_right Z,hl,aG4,List.getElem?_eq_getElem]
 rw[lJ b vs o w i (.inr Z),h.2.1];simp only[List.getElem?_toArray];rw[List.getElem?_append_right (by simp; omega)];simp only[Å,hl,List.getElem?_drop];congr 1; omega
abbrev store(S:St w0 a w n l bl vs)(k:Nat)(hk:bl[k]?=some (b,A))(next:∀w',Ch b w w'->St w0 a w' n l (bl.set k (b,spl A off cs)) vs->Ã P ops Q (os.drop 1) a w')
  (hx:lC P os l=some (b,off,.agg cs.toArray,cs.length):=by kernel_rfl) (D:decide (off+cs.length<=A.length)=true:=by kernel_rfl) (h1:cs.all (·.oneCell')=true:=by kernel_rfl):Ã P ops Q os a w:=by
 obtain⟨o,os',ty,x,y,rfl,hg,hd,J,hx,hy,hi⟩:=oP hx;have aa:off+cs.length<=A.length:=by simpa using D
 have D:=(S.own _ (List.mem_of_getElem? hk)).1;have hR:=gG (bT S.s) o;have ab:=gB (Std.act a) (hR x (by rw[J]; simp[Op.operands])) (p:=[]) I hx;have ac:=gB (Std.act a) (hR y (by rw[J]; simp[Op.operands])) (p:=[]) I hy;have ae:w.there b off cs.toArray.size:=λj hj=>by
  have h3:j<cs.length:=by simpa using hj
  rw[D.2.1,D.F,Array.getElem?_eq_getElem (by simp; omega)]; exact⟨I,I⟩
 refine wpList_store_mid hg ty x y J b off cs.toArray ab ac ae (by rw[hi]; simp) (by rw[<-h1]; simp) ?_;rw[hd];have hc:Ch b w (w.setCells b off cs):=(Ch.refl b w).setCells cs off;have J:w0.heap.size<=b:=(S.own _ (List.mem_of_getElem? hk)).2;exact next _ hc (S.ch hc hk (YG D off cs aa) (qE S.E J cs off))
abbrev store1(S:St w0 a w n l bl vs)(k:Nat)(hk:bl[k]?=some (b,A))(next:∀w',Ch b w w'->St w0 a w' n l (bl.set k (b,spl A off [v])) vs->Ã P ops Q (os.drop 1) a w')
  (D:lC P os l=some (b,off,v,1):=by kernel_rfl) (J:decide (off<A.length)=true:=by kernel_rfl) (h1:v.cells = #[v]:=by kernel_rfl) (ah:v.oneCell'=true:=by kernel_rfl):Ã P ops Q os a w:=by
 obtain⟨o,os',ty,x,y,rfl,hg,hd,aa,D,hy,hi⟩:=oP D;have ac:off<A.length:=by simpa using J
 have J:=(S.own _ (List.mem_of_getElem? hk)).1;have hR:=gG (bT S.s) o;have ae:=gB (Std.act a) (hR x (by rw[aa]; simp[Op.operands])) (p:=[]) I D;have af:=gB (Std.act a) (hR y (by rw[aa]; simp[Op.operands])) (p:=[]) I hy;have hc:Ch b w (w.setCells b off [v]):=(Ch.refl b w).setCells [v] off;have D:w0.heap.size<=b:=(S.own _ (List.mem_of_getElem? hk)).2;have hS:=S.ch hc hk (YG J off [v] (by simp; omega)) (qE S.E D [v] off);have D:=J.2.1 off;rw[Array.getElem?_eq_getElem (by simpa using ac)]at D;have ab:(Instr.storeAt ty (.q b off) v).run P w = .ok () (w.setCells b off [v]):=by
  cases hq:P.info? ty with
  | none=>simp[hq]at hi
  | some i =>
   have ag:i.size=1:=by simpa[hq]using hi
   have:=run_storeCells_cells (P:=P) b off [v] 0 w (λj hj=>by obtain rfl:j=0:=(by simpa using hj); simp[D]) (λj hj=>by simpa using J.F (off+j)) (λu D=>by simp at D; subst D; exact ah);simp only[ż]at this;simp[Instr.storeAt,Instr.sureAddr,storeVar,sizeOf,typeInfo,hq,h1,ag,this]
 have D:(Í a.eval o).run P w = .ok .skip (w.setCells b off [v]):=by
  unfold Í;simp only[aa,ae,af,ġ,ab];rfl
 unfold Ã;rw[Á (by simp[Region.wanted,hg])];left;unfold Oper.wp;rw[D];simp only[Oper.upon];rw[hd];exact next _ hc hS
abbrev St.sub(S:St w0 a w n l bl vs)(D:List (Nat×y9))(h:D.map (λp=>l.lookup p.1)=D.map (λp=>some p.2):=by kernel_rfl):St w0 a w n D bl vs:=by
 refine S.act ⟨S.s.size,S.s.defers,λi v hl=>S.s.has i v ?_⟩;have J:(i,v)∈D:=by
  clear h;induction D with
  | nil=>simp at hl
  | cons p D ih =>
   rw[ĝ]at hl;by_cases hi:i=p.1
   .subst hi;simp only[Ų,Æ]at hl;subst hl; simp
   have D:(i==p.1)=false:=by simpa using hi
   rw[D]at hl;exact ļ _ (ih hl)
 exact aG6.1 h (i,v) J
abbrev St.gK(S:St w0 a w n l bl vs)(k:Nat):St w0 a w n l (bl.drop k) vs:=
 ⟨S.s,S.E,λp D=>S.own p (Ϭ D),List.Nodup.sublist ((List.drop_sublist k bl).map _) S.apart,λm J=>⟨(S.mem m J).1,λp D=>(S.mem m J).2 p (Ϭ D)⟩⟩
abbrev St.view0(S:St w0 a w n l bl vs){b o:Nat}{cs:List y9}(J:b<w0.heap.size)(hr:w0.rangeAt b o cs):St w0 a w n l bl ((b,o,cs)::vs):=
 ⟨S.s,S.E,S.own,S.apart,λm D=>by
  rcases Ù.1 D with rfl | D
  .refine⟨⟨ö J S.E.size,qP hr J S.E⟩,λp hp e=>?_⟩
   have:=(S.own p hp).2
   simp only at e
   omega
  .exact S.mem m D⟩
abbrev St.view(S:St w0 a w n l bl vs){b o:Nat}{cs:List y9}(hb:b<w.heap.size)(hr:w.rangeAt b o cs)(J:∀p∈bl,p.1≠b):St w0 a w n l bl ((b,o,cs)::vs):=
 ⟨S.s,S.E,S.own,S.apart,λm D=>by
  rcases Ù.1 D with rfl | D
  .exact⟨⟨hb,hr⟩,J⟩
  .exact S.mem m D⟩
abbrev St.views(S:St w0 a w n l bl vs)(D:List eX)(h:∀m∈D,m∈vs):St w0 a w n l bl D:=⟨S.s,S.E,S.own,S.apart,λm D=>S.mem m (h m D)⟩
abbrev St.kZ(S:St w0 a w n l bl vs):St w0 a w n l bl []:=S.views [] λ_ h=>by cases h
abbrev St.sn(S:St w0 a w n l bl vs){D:List (Nat×y9)}(h:D.map (λp=>l.lookup p.1)=D.map (λp=>some p.2):=by kernel_rfl):St w0 a w n D bl []:=(S.sub D h).kZ
abbrev St.adopt(S:St w0 a w n l bl vs){b:Nat}{A:List y9}(J:Bx w b A.toArray)(hb:w0.heap.size<=b)(aa:∀p∈bl,p.1≠b)(hv:∀m∈vs,m.1≠b):St w0 a w n l ((b,A)::bl) vs:=
 ⟨S.s,S.E,λp D=>(by
  rcases Ù.1 D with rfl | D
  .exact⟨J,hb⟩
  .exact S.own p D),(by
  rw[đ,Ż]
  refine⟨λJ=>?_,S.apart⟩
  obtain⟨p,D,he⟩:=ô.1 J
  exact aa p D he),λm J=>⟨(S.mem m J).1,λp D=>(by
  rcases Ù.1 D with rfl | D
  .exact λe=>hv m J e.symm
  .exact(S.mem m J).2 p D)⟩⟩
abbrev St.ne(S:St w0 a w n l bl vs){i j:Nat}{p q:Nat×List y9}(J:bl[i]?=some p)(hj:bl[j]?=some q)(D:i≠j):p.1≠q.1:=λe=>D (by
 have D:(bl.map (·.1))[i]?=some p.1:=by rw[List.getElem?_map,J]; rfl
 have h2:(bl.map (·.1))[j]?=some p.1:=by rw[List.getElem?_map,hj,e]; rfl
 exact(List.getElem?_inj (by simpa using (List.getElem?_eq_some_iff.1 J).1) S.apart).1 (D.trans h2.symm))
abbrev St.old(S:St w0 a w n l bl vs)(k:Nat){b:Nat}{A:List y9}(hk:bl[k]?=some (b,A):=by rfl):w0.heap.size<=b:=(S.own _ (List.mem_of_getElem? hk)).2
abbrev St.bx(S:St w0 a w n l bl vs)(k:Nat){b:Nat}{A:List y9}(hk:bl[k]?=some (b,A):=by rfl):Bx w b A.toArray:=(S.own _ (List.mem_of_getElem? hk)).1
abbrev enter{fn:Func}{c:Code}{args:List y9}{R:ĺ->E5->Prop}{n:Nat}(J:P.funcs[f]?=some fn)(hn:fn.ntmps=n)(h:∀a,St w a w n ((List.range args.length).zip args) [] []->c.wp P (Ĩ P fn R) a w)
  (S:fn.body=some c:=by rfl) (D:decide (args.length<=n)=true:=by kernel_rfl):Nq P f args.toArray w R:=
 Vp.enter J S (by rw[hn]; simpa using D) λa s=>h a ⟨(by rw[hn]at s; simpa using s),å,λp D=>(by cases D),List.nodup_nil,λm J=>(by cases J)⟩
abbrev BP{w0:E5}{fn:Func}{c:Code}{args:List y9}{R:ĺ->E5->Prop}{n:Nat}(S:P.funcs[f]?=some fn)(hn:fn.ntmps=n)(hE:Ext w0 w)(hx:Bx w b A.toArray)(hb:w0.heap.size<=b)
  (h:∀a,St w0 a w n ((List.range args.length).zip args) [(b,A)] []->c.wp P (Ĩ P fn R) a w) (D:fn.body=some c:=by rfl) (J:decide (args.length<=n)=true:=by kernel_rfl):Nq P f args.toArray w R:=
 Vp.enter S D (by rw[hn]; simpa using J) λa s=>h a ⟨(by rw[hn]at s; simpa using s),hE,λp D=>(by
  obtain rfl:=û.1 D; exact⟨hx,hb⟩),by simp,λm D=>(by cases D)⟩
abbrev wrote(S:St w0 a w n l bl vs)(k:Nat)(A':List y9)(V:y9)(d:Option Nat)(aa:os=o::os')(hg:o.guard=none)(D:o.dst=d)(hk:bl[k]?=some (b,A))
  (J:(Í a.eval o).run P w = .ok (.value V) w1) (hc:Ch b w w1) (hb:Bx w1 b A'.toArray) (hE:Ext w0 w1) (next:∀a',St w0 a' w1 n (zS l d V) (bl.set k (b,A')) vs->Ã P ops Q (os.drop 1) a' w1) (hd:uG n d=true:=by rfl):Ã P ops Q os a w:=by
 subst aa;unfold Ã;rw[Á (by simp[Region.wanted,hg])];left;unfold Oper.wp;rw[J];simp only[Oper.upon];rw[D];have D:=S.ch hc hk hb hE;exact next _ (D.act (tC S.s hd V))
abbrev cond(S:St w0 a w n l bl vs){t:Bool}(D:t=true->x.wp P Q a w)(J:t=false->y.wp P Q a w)(hc:Vp.ev l c=some (.b t):=by rfl):(Code.cond c x y).wp P Q a w:=wp_cond_split (S.s.ev hc) D J
abbrev Jj(S:St w0 a w n l bl vs)(h:x.wp P Q a w)(D:Vp.ev l c=some (.b true):=by kernel_rfl):(Code.cond c x y).wp P Q a w:=wp_cond_true (S.s.ev D) h
abbrev FH(S:St w0 a w n l bl vs)(h:y.wp P Q a w)(D:Vp.ev l c=some (.z):=by kernel_rfl):(Code.cond c x y).wp P Q a w:=wp_cond_false (S.s.ev D) h
abbrev aT{id:Nat}{os:List YM}(h:∀K:Act->E5->Prop,(∀a w,y.wp P Q a w->K a w)->Ã P os.toArray (Exit.then K Q) os a w):(Code.seq (.region id os.toArray false) y).wp P Q a w:=
 Ô λK D=>wp_region_lit (h K D)
abbrev done{os:List YM}(h:Q .normal a w)(D:os=[]:=by kernel_rfl):Ã P ops Q os a w:=by subst D; exact h
abbrev rn(S:St w0 a w n l bl vs)(k:Nat)(ks:List Key)(new:List (Nat×y9))(next:∀{a'},St w0 a' w n (new++l) bl vs->Ã P ops Q (os.drop k) a' w)(hk:Ai P ks:=by exact G)
  (D:runs P (jZ bl vs) ops n (os.take k) l ks [] new=wants (jZ bl vs) ks [] new:=by kernel_rfl) (J:sZ (os.take k) l new=true:=by kernel_rfl):Ã P ops Q os a w:=run S k ks new (λ_ S=>next S) hk D J
abbrev same(h:Nq P f args w λe w'=>e = .R V∧w=w'):Nq P f args w (Ï w V):=h.mono λ_ _ h=>⟨h.1,by rw[<-h.2]; exact å⟩
def kw(d:Nat)(x:Int):Key := .re d (.i (IntKind.i64.wrap x)) (.i x)
abbrev akY{x:Int}(h : -9223372036854775808<=x∧x<=9223372036854775807):Value.i (IntKind.i64.wrap x) = .i x:=by
 have:IntKind.i64.wrap x=x:=by rw[Ŭ]; omega
 rw[this]
abbrev lZ{α:Type}{f:α->y9}(l:List α)(D:Bx w b (l.map f).toArray)(hl:l.length<=maxLen):aG 1 (λx=>[f x]) w (.s (some ⟨b,0,none⟩) l.length l.length) l:=
 ⟨_,_,I,hl,.inr ⟨b,0,I,D.1,Ç _,λi J j S=>by
  obtain rfl:j=0:=by omega
  have:=D.2.1 i
  simpa[J]using this⟩⟩
abbrev aK{w w':E5}(h:Ext w1 w)(D:Ch b w w')(J:w1.heap.size<=b:=by omega):Ext w1 w':=(Ch.trans (Ch.aY h) D).below J (Ç _)
abbrev apj{k:IntKind}{x y:Int}:Value.int k (if y<x then y else x) = .int k (min x y):=by congr 1; split<;>omega
abbrev ape{k:IntKind}{x y:Int}:Value.int k (if y>x then y else x) = .int k (max x y):=by congr 1; split<;>omega
abbrev wrap_succ(h:(k:Int)+1<=9223372036854775807):Value.i (IntKind.i64.wrap ((k:Int)+1)) = .i (k+1:Nat):=by
 have:IntKind.i64.wrap ((k:Int)+1)=((k+1:Nat):Int):=by rw[Ŭ]; omega
 rw[this]
abbrev gy{k:BinOp}{t:Ð}{D J:î}{xs ys:Array y9}(h:∀w,(binOp k t (.agg xs) (.agg ys)).run P w = .ok V w)(S:P.eqGuardType P.depth t=false) :
  ∀w,(do eqGuard k t D J (.agg xs) (.agg ys); binOp k t (.agg xs) (.agg ys):Sem y9).run P w = .ok V w:=λw=>by
 simp only[ġ,h,run_eqGuard_agg w k t D J xs ys S,ş]
abbrev vV(S:St w0 a w n l bl vs){fn:Func}{R:ĺ->E5->Prop}(D:fn.results = #[.tmp r])(h:R (.R v) w)(J:Vp.ev l (.tmp r)=some v:=by rfl):Ĩ P fn R .ret a w:=aiH S.s D J h
abbrev MP(S:St w0 a w n l bl vs){fn:Func}{R:ĺ->E5->Prop}(D:fn.results = #[.tmp r,.tmp s])(h:R (.R (.tuple #[v,u])) w)(J:Vp.ev l (.tmp r)=some v:=by rfl)(hu:Vp.ev l (.tmp s)=some u:=by rfl):Ĩ P fn R .ret a w:=aes S.s D J hu h
abbrev akQ{P:Ë}{o:Nat}(h:SB P ty cs=some v)(D:w.rangeAt b o cs):(loadVar ty ⟨b,o,none⟩).run P w = .ok v w:=by
 have:=QY h D;simpa[Instr.loadAt,Instr.sureAddr]using this
abbrev St.var(S:St w0 a w n l bl vs){k:Nat}{b:Nat}{A:List y9}(hk:bl[k]?=some (b,A)){ty:Ð}{v:y9}(h:SB P ty A=some v):(loadVar ty ⟨b,0,none⟩).run P w = .ok v w:=
 akQ h (by
  have:=(S.bx k hk).range 0 A.length (cs:=A) Y
  exact this)
abbrev ajB(S:St w0 a w n l bl vs)(k:Nat){fn:Func}{R:ĺ->E5->Prop}(hr:fn.results = #[.cell r ty])(hk:bl[k]?=some (b,A))(h:R (.R v) w)
  (J:Vp.ev l (.tmp r)=some (.q b 0):=by kernel_rfl) (hl:SB P ty A=some v:=by kernel_rfl):Ĩ P fn R .ret a w:=by
 refine⟨S.s.defers,_,?_,h⟩;have D:=S.s.ev J;have J:=S.var hk hl;unfold results;rw[hr];simp only[Act.eval,Array.getD_eq_getD_getElem?]at D;simp[D,asAddr,J]
abbrev atZ(S:St w0 a w n l bl vs)(k:Nat){fn:Func}{R:ĺ->E5->Prop}(hr:fn.results = #[.cell r ty,.tmp s])(hk:bl[k]?=some (b,A))(h:R (.R (.tuple #[v,u])) w)
  (J:Vp.ev l (.tmp r)=some (.q b 0):=by kernel_rfl) (hu:Vp.ev l (.tmp s)=some u:=by rfl) (hl:SB P ty A=some v:=by kernel_rfl):Ĩ P fn R .ret a w:=by
 refine⟨S.s.defers,_,?_,h⟩;have D:=S.s.ev J;have J:=S.s.ev hu;have h2:=S.var hk hl;unfold results;rw[hr];simp only[Act.eval,Array.getD_eq_getD_getElem?]at D J;simp[D,J,asAddr,h2]
section
variable{id:Nat}{fn:Func}{R:ĺ->E5->Prop}
abbrev Qm [r:Vp.ώ Q (Ĩ P fn R)](S:St w0 a w n l bl vs){r:Nat}{v:y9}(D:fn.results = #[.tmp r])(h:R (.R v) w)(J:Vp.ev l (.tmp r)=some v:=by rfl):Code.ret.wp P Q a w:=ğ (vV S D h J)
abbrev rt2 [r:Vp.ώ Q (Ĩ P fn R)](S:St w0 a w n l bl vs){r s:Nat}{v u:y9}(D:fn.results = #[.tmp r,.tmp s])(h:R (.R (.tuple #[v,u])) w)(J:Vp.ev l (.tmp r)=some v:=by rfl)(hu:Vp.ev l (.tmp s)=some u:=by rfl):Code.ret.wp P Q a w:=ğ (MP S D h J hu)
abbrev rtc [r:Vp.ώ Q (Ĩ P fn R)](S:St w0 a w n l bl vs)(k:Nat){r b:Nat}{ty:Ð}{A:List y9}{v:y9}(D:fn.results = #[.cell r ty])(hk:bl[k]?=some (b,A))(h:R (.R v) w)
  (J:Vp.ev l (.tmp r)=some (.q b 0):=by kernel_rfl) (hl:SB P ty A=some v:=by kernel_rfl):Code.ret.wp P Q a w:=ğ (ajB S k D hk h J hl)
end
end
abbrev Bc:=List (Nat×Fact)
def pT(U:Bc)(x:Nat->y9)(o:YM)(t:T3):T3:=match o.dst with | some d=>(match U.lookup d with | some _=>(true,x d,false) | none=>t) | none=>t
def fx(U:Bc)(o:YM)(t:T3):Fact:=match o.dst with | some d=>(match U.lookup d with | some K=>K | none=>ZV t) | none=>ZV t
def Ee:Bc->Prop
 | []=>True
 | p::r=>(∀v w w',Ext w w'->p.2 v w->p.2 v w')∧Ee r
def oQ(U:Bc)(x:Nat->y9)(w:E5):List Nat->Prop
 | []=>True
 | s::r=>(match U.lookup s with | some K=>K (x s) w | none=>True)∧oQ U x w r
abbrev ϒ:=FuncId×Array y9×Bool×y9×Nat
def ait(U:Bc)(d:Nat)(V v:y9)(w:E5):Prop:=match U.lookup d with | some K=>K v w | none=>v=V
def Wj(P:Ë)(w:E5)(U:Bc)(x:Nat->y9):List ϒ->List (List Nat)->Prop
 | [],_=>True
 | _::_,[]=>False
 | c::cs,s::ss=>(∀w',Ext w w'->c.2.2.1=true->oQ U x w' s->Nq P c.1 c.2.1 w' (λe D=>∃v,e = .R v∧ait U c.2.2.2.2 c.2.2.2.1 v D∧Ext w' D))∧Wj P w U x cs ss
def iC(base:Nat)(A:List y9)(D:Option Nat):Fact:=λv w=>∃b,v=Ρ D b∧base<=b∧Bx w b A.toArray
abbrev iC.mono{base:Nat}{A:List y9}{D:Option Nat}:∀v w w',Ext w w'->iC base A D v w->iC base A D v w':=λv w w' D ⟨b,J,S,h3⟩=>⟨b,J,S,h3.ext D⟩
def Ū(U:Bc)(base q:Nat):List Key->Prop
 | []=>True
 | .new d A sh r::ks=>(r=q∧U.lookup d=some (iC base A sh))∧Ū U base q ks
 | _::ks=>Ū U base q ks
abbrev Ū.mem{U:Bc}{base q:Nat}:∀{ks:List Key} {d:Nat} {A:List y9} {sh:Option Nat} {r:Nat},Ū U base q ks->Key.new d A sh r∈ks->r=q∧U.lookup d=some (iC base A sh)
 | [],_,_,_,_,_,h=>by cases h
 | k::ks,d,A,sh,r,h,hm=>by
  have J:Ū U base q ks:=by cases k<;>first | exact h | exact h.2
  rcases Ù.1 hm with e | D
  .subst e; exact h.1
  .exact Ū.mem J D
abbrev _root_.Go.Rel.Upon.mono{P:Ë}{K J:y9->E5->Prop}{r:Result Next}(h:Upon P K r)(D:∀v w,K v w->J v w):Upon P J r:=by
 cases r with
 | ok x w =>
  cases x<;>simp only[Upon]at h |-;case value u=>exact D _ _ h
  case skip=>exact D _ _ h
  case enter f args=>exact h.mono λe w' ⟨v,J,hk⟩=>⟨v,J,D _ _ hk⟩
 | halt x w=>exact h.elim
abbrev Hnd:=List (Nat×List Nat)
def hpost(U:Bc)(o:YM)(v:y9)(w:E5):Prop:=match o.dst with | some d=>(match U.lookup d with | some K=>K v w | none=>True) | none=>True
def aur(y:Nat->y9)(d m:Nat):y9 := .tuple ((List.range m).map λj=>y (1000*(j+1)+d)).toArray
def xT(T:List (Nat×Nat))(y:Nat->y9)(s:Nat):y9:=match T.lookup s with | some m=>aur y s m | none=>y s
def alU(v:y9)(j:Nat):y9:=match v with | .tuple a=>a.getD j undef | _=>undef
def ŷ(ρ:î->y9)(s:Nat):y9:=match decide (s<1000)with | true=>ρ (.tmp s) | false=>alU (ρ (.tmp (s%1000))) (s/1000-1)
abbrev aus{T:List (Nat×Nat)}{ρ:î->y9}{s:Nat}(D:s<1000)(h:∀m,T.lookup s=some m->∃a:Array y9,ρ (.tmp s) = .tuple a∧a.size=m):xT T (ŷ ρ) s=ρ (.tmp s):=by
 unfold xT;cases hl:T.lookup s with
 | none=>simp only; unfold ŷ; rw[ņ D]
 | some m =>
  obtain⟨a,e,S⟩:=h m hl;simp only;unfold aur;rw[e];congr 1;refine Array.ext (by simpa using S.symm) λi D J=>?_;have S:i<m:=by simpa using D
  simp only[List.getElem_toArray,List.getElem_map,List.getElem_range];unfold ŷ;rw[Ŝ Z];simp only;rw[show(1000*(i+1)+s)%1000=s by omega,show(1000*(i+1)+s)/1000-1=i by omega,e];unfold alU;simp[Array.getD_eq_getD_getElem?,J]
abbrev aiu{α:Type}{l:List (Nat×α)}{i:Nat}{x:α}(h:l.lookup i=some x):(i,x)∈l:=by
 induction l with
 | nil=>simp at h
 | cons y l ih =>
  rw[ĝ]at h;by_cases hi:i=y.1
  .subst hi;simp only[Ų,Æ]at h;subst h; simp
  have D:(i==y.1)=false:=by simpa using hi
  rw[D]at h;exact ļ _ (ih h)
def qx(P:Ë)(w:E5)(U:Bc)(T:List (Nat×Nat))(x:Nat->y9)(os:List YM):Hnd->List Key->Prop
 | h::hl,.hand _ kv::ks=>(∀o,os[h.1]?=some o->∀ρ w',Std ρ->Ext w w'->(∀q,q<1000->T.lookup q=none->ρ (.tmp q)=x q)->(∀q∈kv,ρ (.tmp q.1)=q.2)->oQ U x w' h.2->Does P o ρ w' (λv D=>Ext w' D∧hpost U o (kept o v) D))∧qx P w U T x os hl ks
 | [],.hand _ _::_=>False
 | hl,_::ks=>qx P w U T x os hl ks
 | _,[]=>True
def yN(os:List YM):Hnd->List Key->Bool
 | h::hl,.hand d _::ks=>(os[h.1]?).bind (·.dst)==some d&&yN os hl ks
 | [],.hand _ _::_=>false
 | hl,_::ks=>yN os hl ks
 | _,[]=>true
abbrev qx.get{P:Ë}{w:E5}{U:Bc}{T:List (Nat×Nat)}{x:Nat->y9}{os:List YM}:∀{ks:List Key} {hl:Hnd} {d:Nat} {kv:List (Nat×y9)},qx P w U T x os hl ks->yN os hl ks=true->Key.hand d kv∈ks ->
  ∃h∈hl,(os[h.1]?).bind (·.dst)=some d∧∀o,os[h.1]?=some o->∀ρ w',Std ρ->Ext w w'->(∀q,q<1000->T.lookup q=none->ρ (.tmp q)=x q)->(∀q∈kv,ρ (.tmp q.1)=q.2)->oQ U x w' h.2->Does P o ρ w' (λv D=>Ext w' D∧hpost U o (kept o v) D)
 | [],_,_,_,_,_,J=>by cases J
 | k::ks,hl,d,kv,hx,hk,J=>by
  have tl:∀{hl':Hnd},qx P w U T x os hl' ks->yN os hl' ks=true->Key.hand d kv∈ks->(∀h∈hl',h∈hl)->∃h∈hl,(os[h.1]?).bind (·.dst)=some d∧∀o,os[h.1]?=some o->∀ρ w',Std ρ->Ext w w'->(∀q,q<1000->T.lookup q=none->ρ (.tmp q)=x q)->(∀q∈kv,ρ (.tmp q.1)=q.2)->oQ U x w' h.2->Does P o ρ w' (λv D=>Ext w' D∧hpost U o (kept o v) D):=λ{hl'} h1 h2 h3 h4=>by
   obtain⟨h,S,r⟩:=qx.get h1 h2 h3
   exact⟨h,h4 h S,r⟩
  cases k with
  | hand d' kv' =>
   cases hl with
   | nil=>exact hx.elim
   | cons h hl =>
    have D:((os[h.1]?).bind (·.dst)==some d'&&yN os hl ks)=true:=hk
    simp only[Û,ß]at D
    rcases Ù.1 J with e | J
    .simp only[Key.hand.injEq]at e
     obtain⟨rfl,rfl⟩:=e
     exact⟨h,by simp,D.1,hx.1⟩
    .exact tl hx.2 D.2 J λh S=>by simp[S]
  | _ =>
   rcases Ù.1 J with e | J
   .cases e
   .cases hl<;>exact tl hx hk J λ_ h=>h
def Ld(os:List YM)(m:Nat)(U:Bc)(hl:Hnd):Bool:=hl.all λp=>match os[p.1]? with
 | some o=>(match o.dst with
  | some d=>(U.lookup d).isSome&&p.2.all (λq=>(Sx.waits os.toArray o).contains q&&(os.take m).any (λo=>o.dst==some q))&&(os.take m).zipIdx.all (λy=>y.1.dst != some d||y.2==p.1)
  | none=>false)
 | none=>false
def PtR(r:GH)(v:y9)(k:Bool)(ì:Bool)(d:Option Nat)(ws:List Nat)(C:List Ũ):Prop:=match r with | .val u=>u=v∧k=true | .enter f args=>k=false∧((f,args,ì,v),d,ws)∈C | .new=>k=false
section
variable{P:Ë}{ms:List eX}{ops:Array YM}{n:Nat}{hd:List YM}{Ta:List T3}{e0:Env}
def Point(nw:Prop)(P:Ë)(ms:List eX)(ops:Array YM)(hd:List YM)(Ta:List T3)(e0:Env)(C:List Ũ)(Ϩ:List Key)(j:Nat)(o:YM):Prop:=
 ∃e p D J r L1 v k,Ι hd Ta e0 j e∧pathOf ops e o=some p∧Ŧ P ms e p D o=some (r,J,L1)∧(∃S,D=S++J∧L1=S.map (xq ms)∧oz nw P S)∧(∀k∈D,k∈Ϩ)∧Ta[j]?=some (jP e p,v,k) ∧
  PtR r v k (jP e p) o.dst (Sx.waits ops o) C
theorem LY{nw:Prop}{C0:List Ũ}{Ϩ:List Key}(S:∀o∈hd,o.dst.isSome=true):∀(os:List YM) (i:Nat) {e e':Env} {ks:List Key} {L:List Loc} {C:List Ũ} {T:List T3} {cs:List y9},hd.drop i=os->Ta.drop i=T->Ι hd Ta e0 i e->exec P ms ops n os e ks cs=some (e',L,C,T) ->
  L=ks.map (xq ms)->oz nw P ks->(∀k∈ks,k∈Ϩ)->(∀c∈C,c∈C0)->(∀j o,i<=j->hd[j]?=some o->Point nw P ms ops hd Ta e0 C0 Ϩ j o)∧Ι hd Ta e0 hd.length e'
 | [],i,e,e',ks,L,C,T,cs,hos,hTa,ht,hx,hL,hk0,hks,hC=>by
  unfold exec at hx
  have D:hd.length<=i:=by simpa using hos
  refine⟨λj o ac hj=>?_,?_⟩
  .have:=(List.getElem?_eq_some_iff.1 hj).1; omega
  .split at hx
   .simp only[Æ,Ê]at hx
    obtain⟨rfl,-⟩:=hx
    intro s x hs
    rcases ht s x hs with ⟨j,oj,hj,D,J,k,ao⟩ | ⟨ap,h0⟩
    .exact .inl ⟨j,oj,(List.getElem?_eq_some_iff.1 D).1,D,J,k,ao⟩
    .exact .inr ⟨λj oj hj D=>ap j oj Z D,h0⟩
   .cases hx
 | o::os,i,e,e',ks,L,C,T,cs,hos,hTa,ht,hx,hL,hk0,hks,hC=>by
  have ho:hd[i]?=some o:=by have:=Ñ List.head? hos; simpa[List.head?_drop]using this
  have ae:hd.drop (i+1)=os:=by have:=Ñ List.tail hos; simpa[List.tail_drop]using this
  obtain⟨d,hd1⟩:=Į.1 (S o (List.mem_of_getElem? ho))
  unfold exec at hx
  cases hp:pathOf ops e o with
  | none=>simp[hp]at hx
  | some p =>
   simp only[hp]at hx
   cases hpo:yL n e o.dst p with
   | false=>simp[hpo]at hx
   | true =>
    cases h1:Ŧ P ms e p ks o with
    | none=>simp[hpo,h1]at hx
    | some r =>
     obtain⟨r,ks',L1⟩:=r
     have go:∀v kk L' (C':List Ũ) T' J,exec P ms ops n os (put e o.dst p v) ks' J=some (e',L',C',T')->T=(jP e p,v,kk)::T'->L1++L'=ks.map (xq ms)->(∀c∈C',c∈C0) ->
       PtR r v kk (jP e p) o.dst (Sx.waits ops o) C0 ->
       (∀j o,i<=j->hd[j]?=some o->Point nw P ms ops hd Ta e0 C0 Ϩ j o)∧Ι hd Ta e0 hd.length e':=by
      intro v kk L' C' T' J D hT am an hr
      subst hT
      obtain⟨ab,ai,al⟩:=wI h1 am hk0
      have aa:Ta[i]?=some (jP e p,v,kk):=by have:=Ñ List.head? hTa; simpa[List.head?_drop]using this
      have af:Ta.drop (i+1)=T':=by have:=Ñ List.tail hTa; simpa[List.tail_drop]using this
      have ag:∀k∈ks',k∈Ϩ:=λk hk=>hks k (by obtain⟨kl,rfl,_⟩:=ab; exact ś _ hk)
      have ah:Point nw P ms ops hd Ta e0 C0 Ϩ i o:=⟨e,p,ks,ks',r,L1,v,kk,ht,hp,h1,ab,hks,aa,hr⟩
      rw[hd1]at D hpo
      have ih:=LY S os (i+1) ae af (ht.put ho hd1 aa hpo) D ai al ag an
      refine⟨λj oj ac hj=>?_,ih.2⟩
      rcases ĩ i j with S | aq
      .exact ih.1 j oj S hj
      .obtain rfl:j=i:=by omega
       rw[ho]at hj
       obtain rfl:=Ò hj
       exact ah
     cases r with
     | val v =>
      simp only[hpo,h1]at hx
      cases D:exec P ms ops n os (put e o.dst p v) ks' cs with
      | none=>simp[D]at hx
      | some z =>
       obtain⟨S,L',C',T'⟩:=z
       simp only[D,Æ,Ê]at hx
       obtain⟨rfl,rfl,rfl,rfl⟩:=hx
       exact go v true _ _ _ _ D I hL hC ⟨I,I⟩
     | new =>
      simp only[hpo,h1]at hx
      cases cs with
      | nil=>simp at hx
      | cons v J =>
       simp only at hx
       cases D:exec P ms ops n os (put e o.dst p v) ks' J with
       | none=>simp[D]at hx
       | some z =>
        obtain⟨S,L',C',T'⟩:=z
        simp only[D,Æ,Ê]at hx
        obtain⟨rfl,rfl,rfl,rfl⟩:=hx
        exact go v false _ _ _ _ D I hL hC I
     | enter f args =>
      simp only[hpo,h1]at hx
      cases cs with
      | nil=>simp at hx
      | cons v J =>
       simp only at hx
       cases D:exec P ms ops n os (put e o.dst p v) ks' J with
       | none=>simp[D]at hx
       | some z =>
        obtain⟨S,L',C',T'⟩:=z
        simp only[D,Æ,Ê]at hx
        obtain⟨rfl,rfl,rfl,rfl⟩:=hx
        exact go v false _ _ _ _ D I hL (λc J=>hC c (ļ _ J)) ⟨I,hC _ Y⟩
end
abbrev J3{P:Ë}{R:E5->E5->Prop}{C:E5->Prop}{Q:Exit->Act->E5->Prop}{a:Act}{w:E5}{l:List YM}(n:Nat)(A:List Nat)(hB:okB l.toArray n a.tmps.size=true)
  (Ts:List Fact) (hA:Als l.toArray Ts A) (S:C { w with drawn:=w.drawn+1 }) (hC:∀w w',C w->R w w'->C w') (hm:∀T∈Ts,∀v w w',R w w'->T v w->T v w')
  (aa:∀(i:Nat) o,i<n->l[i]?=some o->uq P l.toArray (l.take n) Ts R C a.eval o (Ts.getD i top))
  (J:∀D w',C w'->D.defers=a.defers->D.tmps.size=a.tmps.size->(∀(j:Nat) o,(l.take n)[j]?=some o->Ts.getD j top (Rel.valOf D.eval o.dst) w')->Rel.Out (l.take n) D.eval a.eval ->
   (∀i∈A,∀j∈A,i≠j->i<n->j<n->∀o1 o2,l.toArray[i]?=some o1->l.toArray[j]?=some o2->Rel.valOf D.eval o1.dst≠Rel.valOf D.eval o2.dst)->Ã P l.toArray Q (l.drop n) D w') :
  Đ P .any l.toArray Q l.toArray.size (Array.replicate l.toArray.size false) a { w with drawn:=w.drawn+1 }:=
 Iy n hB (λ_=>R) C A 0 (λ_=>True) Ts hA S G (λ_=>hC) (λ_ _ _ _ _ _=>G) (λj T S i _=>hm T (List.mem_of_getElem? S))
  (λi o hi S=>(aa i o hi S).cls λ_ h=>h.1) λD w' hc hd hs hf S ha=>J D w' hc hd hs hf (λt ht=>lH (S t λj o hj D J=>by
   rw[ñ]at ht
   have S:=ht o (List.mem_iff_getElem?.2 ⟨j,by rw[List.getElem?_take_of_lt hj]; simpa using D⟩)
   rw[J]at S
   simp at S)) ha
def aeb(os:List YM)(U:Bc)(base:Nat):List (Nat×Nat)->Prop
 | []=>True
 | p::r=>(∃o t cs,os[p.1]?=some o∧o.op = .alloc t∧o.dst=some p.2∧o.guard=none∧U.lookup p.2=some (iC base cs none))∧aeb os U base r
abbrev aeb.mem{os:List YM}{U:Bc}{base:Nat}:∀{A:List (Nat×Nat)},aeb os U base A->∀p∈A,∃o t cs,os[p.1]?=some o∧o.op = .alloc t∧o.dst=some p.2∧o.guard=none∧U.lookup p.2=some (iC base cs none)
 | _::_,h,p,D=>by
  rcases Ù.1 D with rfl | D
  .exact h.1
  .exact aeb.mem h.2 p D
section
variable{P:Ë}{Q:Exit->Act->E5->Prop}{w0:E5}{a:Act}{w:E5}{os:List YM}{n:Nat}{l:List (Nat×y9)}{bl:List (Nat×List y9)}{vs:List eX}
def ϓ(c:ϒ):Cl×Option Nat:=((c.1,c.2.1,c.2.2.1,c.2.2.2.1),some c.2.2.2.2)
def WT(hd:List YM)(U:Bc):List Ũ->List (List Nat)->Bool
 | [],_=>true
 | _::_,[]=>false
 | c::cs,s::ss=>s.all (λd=>c.2.2.contains d&&hd.any (λo=>o.dst==some d))&&WT hd U cs ss
def ZB(hd:List YM)(U:Bc)(D:List (List Nat))(new:List (Nat×y9))(r:Out):List (Option (qU×y9))×List Loc×List (Cl×Option Nat)×List T3×Bool:=
 (new.map (λp=>(r.1.lookup p.1).map (cl1 r.1)),r.2.1,r.2.2.1.map (λc=>(c.1,c.2.1)),r.2.2.2,WT hd U r.2.2.1 D)
def tv(r:Option Out):List T3:=match r with | some r=>r.2.2.2 | none=>[]
def patch(U:Bc)(x:Nat->y9):List YM->List T3->List T3
 | o::os,t::ts=>pT U x o t::patch U x os ts
 | _,_=>[]
def yR(U:Bc):List YM->List T3->List Fact
 | o::os,t::ts=>fx U o t::yR U os ts
 | _,_=>[]
theorem qV{U:Bc}{x:Nat->y9}:∀{hd:List YM} {ts:List T3} {j:Nat} {o:YM} {t:T3},hd[j]?=some o->(patch U x hd ts)[j]?=some t->∃t0,t=pT U x o t0∧(yR U hd ts)[j]?=some (fx U o t0)
 | [],_,j,o,t,h,_=>by simp at h
 | _::_,[],j,o,t,_,h=>by simp[patch]at h
 | o'::hd,t'::ts,j,o,t,h,h2=>by
  cases j with
  | zero =>
   simp only[List.getElem?_cons_zero,Æ]at h
   subst h
   simp only[patch,List.getElem?_cons_zero,Æ]at h2
   exact⟨t',h2.symm,I⟩
  | succ j=>exact qV (hd:=hd) (ts:=ts) (by simpa using h) (by simpa[patch]using h2)
theorem WU{U:Bc}(D:Ee U):∀{hd:List YM} {ts:List T3},∀T∈yR U hd ts,∀v w w',Ext w w'->T v w->T v w'
 | [],_,T,h=>by simp[yR]at h
 | _::_,[],T,h=>by simp[yR]at h
 | o::hd,t::ts,T,h=>by
  rcases Ù.1 h with rfl | h
  .intro v w w' hE hT
   unfold fx at hT |-
   cases hd:o.dst with
   | none=>rw[hd]at hT; exact hT
   | some d =>
    rw[hd]at hT
    simp only at hT |-
    cases hl:U.lookup d with
    | none=>rw[hl]at hT; exact hT
    | some K =>
     rw[hl]at hT
     have key:∀{U:Bc},Ee U->U.lookup d=some K->∀v w w',Ext w w'->K v w->K v w':=by
      intro U
      induction U with
      | nil=>intro _ h; simp at h
      | cons p U ih =>
       intro D h
       rw[ĝ]at h
       split at h
       .obtain rfl:=Ò h; exact D.1
       .exact ih D.2 h
     exact key D hl v w w' hE hT
  .exact WU D T h
abbrev aiv{U:Bc}{x:Nat->y9}{hd:List YM}{ts:List T3}{ρ:î->y9}{w:E5}{e0 e:Env}{i:Nat}(hx:∀s K,U.lookup s=some K->K (ρ (.tmp s)) w->x s=ρ (.tmp s))(ht:Ι hd (patch U x hd ts) e0 i e){s:Nat}{y:qU×y9}(hl:e.lookup s=some y)
  (ae:∀j o,j<i->hd[j]?=some o->o.dst=some s->(yR U hd ts).getD j top (ρ (.tmp s)) w) (aa:(∀j o,j<i->hd[j]?=some o->o.dst≠some s)->e0.lookup s=some y->ρ (.tmp s)=den e y):ρ (.tmp s)=den e y:=by
 rcases ht s y hl with ⟨j,oj,hj,J,S,k,ab⟩ | ⟨ac,D⟩
 .obtain⟨t0,h1,h2⟩:=qV J ab;have D:=ae j oj hj J S;have J:(yR U hd ts).getD j top=fx U oj t0:=by simp[List.getD,h2]
  rw[J]at D;unfold pT at h1;unfold fx at D;rw[S]at h1 D;simp only at h1 D;cases hl:U.lookup s with
  | none =>
   rw[hl]at h1 D;simp only at h1 D;subst h1;exact D
  | some K =>
   rw[hl]at h1 D;simp only[Ê]at h1;unfold den;rw[h1.1,h1.2.1,hx s K hl D];rfl
 exact aa ac D
theorem abt{U:Bc}{x:Nat->y9}{w:E5}{hd:List YM}:∀{cl:List ϒ} {ns:List (List Nat)} {C:List Ũ},Wj P w U x cl ns->C.map (λc=>(c.1,c.2.1))=cl.map ϓ->WT hd U C ns=true->∀c∈C,∃d s,c.2.1=some d∧s.all (λd=>c.2.2.contains d&&hd.any (λo=>o.dst==some d))=true ∧
  ∀w',Ext w w'->c.1.2.2.1=true->oQ U x w' s->Nq P c.1.1 c.1.2.1 w' (λe D=>∃v,e = .R v∧ait U d c.1.2.2.2 v D∧Ext w' D)
 | [],_,C,_,hm,_,c,D=>by
  have:C=[]:=by simpa using hm
  subst this; cases D
 | c'::cl,[],C,ho,_,_,c,D=>ho.elim
 | c'::cl,s::ns,[],_,hm,_,c,D=>by cases D
 | c'::cl,s::ns,c0::C,ho,hm,hn,c,D=>by
  simp only[đ,Ă]at hm
  unfold WT at hn
  rw[Û]at hn
  rcases Ù.1 D with rfl | D
  .have h1:=hm.1
   unfold ϓ at h1
   simp only[Ê]at h1
   refine⟨_,s,h1.2,hn.1,?_⟩
   rw[h1.1]
   exact ho.1
  .exact abt ho.2 hm.2 hn.2 c D
theorem LZ{U:Bc}{x:Nat->y9}{w:E5}:∀{s:List Nat},(∀d∈s,∀K,U.lookup d=some K->K (x d) w)->oQ U x w s
 | [],_=>trivial
 | d::s,h=>⟨by
   cases hl:U.lookup d with
   | none=>trivial
   | some K=>exact h d Y K hl,LZ λJ D=>h J (by simp[D])⟩
abbrev aiw(T A:List (Nat×Nat))(S:St w0 a w n l bl vs)(m:Nat)(U:Bc)(ks:Nat->List Key)(cs:(Nat->y9)->List y9)(cl:(Nat->y9)->List ϒ)(ns:List (List Nat))(new:(Nat->y9)->List (Nat×y9))
  (hU:Ee U) (hO:∀x,Wj P w U x (cl x) ns)
  (next:∀a' w' y,Ext w w'->oQ U (xT T y) w' (U.map (·.1))->(∀p∈A,∀q∈A,p.2≠q.2->xT T y p.2≠xT T y q.2)->St w0 a' w' n (new (xT T y)++l) bl vs->Ã P os.toArray Q (os.drop m) a' w')
  (hA:aeb (os.take m) U w.heap.size A) (hN:∀r,Ū U w.heap.size r (ks r):=by intro r; exact G) (hk:∀r,oz True P (ks r):=by intro r; exact G)
  (ck:(U.map (·.1)).all (λd=>(os.take m).any (λo=>o.dst==some d))=true:=by kernel_rfl)
  (hB:okB os.toArray m n=true:=by kernel_rfl) (hD:tq os.toArray (os.take m)=true:=by kernel_rfl)
  (hl:Hnd:=[]) (hH:∀x r,qx P w U T x os hl (ks r):=by intro x r; exact G) (dq:∀r,yN os hl (ks r)=true:=by intro r; kernel_rfl) (bo:Ld os m U hl=true:=by kernel_rfl)
  (hT:∀p∈T,∀K,U.lookup p.1=some K->∀v w,K v w->∃a:Array y9,v = .tuple a∧a.size=p.2:=by intro p D; cases D) (hx:∀y r,(exec P (jZ bl vs) os.toArray n (os.take m) (lift l) (ks r) (cs (xT T y))).map (ZB (os.take m) U ns (new (xT T y)))=some ((new (xT T y)).map (λp=>some ([],p.2)),(ks r).map (xq (jZ bl vs)),(cl (xT T y)).map ϓ,patch U (xT T y) (os.take m) (tv (exec P (jZ bl vs) os.toArray n (os.take m) (lift l) (ks 0) (cs λ_=>undef))),true):=by intro y r; kernel_rfl) (hs:∀y,sZ (os.take m) l (new (xT T y))=true:=by intro y; kernel_rfl) (hn:(decide (n<=1000)&&(U.map (·.1)).all λd=>decide (d<n))=true:=by kernel_rfl):Đ P .any os.toArray Q os.toArray.size (Array.replicate os.toArray.size false) a { w with drawn:=w.drawn+1 }:=by
 generalize hts:tv (exec P (jZ bl vs) os.toArray n (os.take m) (lift l) (ks 0) (cs λ_=>undef))=ts at hx;simp only[Û,Þ]at hn;have ah:∀s K,U.lookup s=some K->s<n:=λs K h=>by
  have:=ñ.1 hn.2 s (ô.2 ⟨_,aiu h,I⟩);simpa using this
 have ai:∀(ρ:î->y9) (w':E5) (s:Nat) K,s<n->U.lookup s=some K->K (ρ (.tmp s)) w'->xT T (ŷ ρ) s=ρ (.tmp s):=λρ w' s K hs hK hk=>aus Z λm J=>hT (s,m) (aiu J) K hK _ _ hk;have bp:=S.s.size;have ok:=aep hB;have ag:∀(j:Nat) o,(os.take m)[j]?=some o->os.toArray[j]?=some o:=λj o h=>by
  rw[List.getElem?_take]at h;split at h
  .simpa using h
  cases h
 have ay:∀o∈os.take m,o.dst.isSome=true:=by
  intro o ho;obtain⟨j,hj⟩:=List.getElem?_of_mem ho;unfold tq at hD;rw[ñ]at hD;have:=hD _ (zI hj);simp only[Û]at this;exact this.1
 have bq:∀s y,(lift l).lookup s=some y->y.1=[]∧a.eval (.tmp s)=y.2:=by
  intro s y hy;rw[ku]at hy;cases hl:l.lookup s with
  | none=>simp[hl]at hy
  | some v=>simp only[hl,ě,Æ]at hy; rw[<-hy]; exact⟨I,S.s.has s v hl⟩
 have af:∀y r,∃e' C,C.map (λc=>(c.1,c.2.1))=(cl (xT T y)).map ϓ∧WT (os.take m) U C ns=true∧(∀i v,(new (xT T y)).lookup i=some v->∃q,e'.lookup i=some (q,v)∧jP e' q=true) ∧
   (∃L TT,exec P (jZ bl vs) os.toArray n (os.take m) (lift l) (ks r) (cs (xT T y))=some (e',L,C,TT)) ∧
   (∀j o,(os.take m)[j]?=some o->Point True P (jZ bl vs) os.toArray (os.take m) (patch U (xT T y) (os.take m) ts) (lift l) C (ks r) j o)∧Ι (os.take m) (patch U (xT T y) (os.take m) ts) (lift l) (os.take m).length e':=by
  intro y r
  have h:=hx y r
  generalize xT T y=x at h |-
  cases hr:exec P (jZ bl vs) os.toArray n (os.take m) (lift l) (ks r) (cs x)with
  | none=>rw[hr]at h; simp at h
  | some z =>
   obtain⟨e',L,C,TT⟩:=z
   rw[hr]at h
   simp only[ě,ZB,Æ,Ê]at h
   obtain⟨h1,rfl,h3,rfl,h5⟩:=h
   have D:=LY (nw:=True) (C0:=C) (Ϩ:=ks r) ay (os.take m) 0 I (Ϻ ..) (λs y hy => .inr ⟨λj o hj=>by omega,hy⟩) hr I (hk r) (λk hk=>hk) (λc hc=>hc)
   refine⟨e',C,h3,h5,λi v hl=>?_,⟨_,_,I⟩,λj o hj=>D.1 j o (Î _) hj,D.2⟩
   have J:(i,v)∈new x:=by
    clear h1 h3 h5 D
    generalize new x=nx at hl |-
    induction nx with
    | nil=>simp at hl
    | cons p nx ih =>
     rw[ĝ]at hl
     by_cases hi:i=p.1
     .subst hi
      simp only[Ų,Æ]at hl
      subst hl; simp
     .have e1:(i==p.1)=false:=by simpa using hi
      rw[e1]at hl
      exact ļ _ (ih hl)
   have:=aG6.1 h1 (i,v) J
   simp only[Option.map_eq_some_iff]at this
   obtain⟨y,h6,h7⟩:=this
   obtain⟨J,h9⟩:=ais h7
   exact⟨y.1,by rw[h6,<-J],h9⟩
 have FB:∀(ρ:î->y9) (w':E5) (o:YM),Rel.SS os.toArray (yR U (os.take m) ts) ρ w' o.after.toList->∀g∈o.after.toList,Region.binds .any g=true->∀J,(os.take m)[g.on]?=some J->(yR U (os.take m) ts).getD g.on top (Rel.valOf ρ J.dst) w':=by
  intro ρ w' o hd g hg hb J ap;have key:∀es:List Edge,Rel.SS os.toArray (yR U (os.take m) ts) ρ w' es->∀g∈es,Region.binds .any g=true->(yR U (os.take m) ts).getD g.on top (Rel.valOf ρ ((os.toArray[g.on]?).bind (·.dst))) w':=by
   intro es;induction es with
   | nil=>intro _ g hg; cases hg
   | cons x es ih =>
    intro h g hg hb;rcases Ù.1 hg with rfl | hg
    .exact h.1 hb
    exact ih h.2 g hg hb
  have:=key _ hd g hg hb;rwa [ag _ _ ap,Α]at this
 have a8:∀p∈A,∃o t cs,(os.take m)[p.1]?=some o∧o.op = .alloc t∧o.dst=some p.2∧o.guard=none∧U.lookup p.2=some (iC w.heap.size cs none)∧(yR U (os.take m) ts).getD p.1 top=iC w.heap.size cs none:=by
  intro p D;obtain⟨o,t,cs,h1,h2,h3,h4,h5⟩:=hA.mem p D;obtain⟨e',C,_,_,_,_,al,_⟩:=af (λ_=>undef) 0;obtain⟨_,_,_,_,_,_,_,_,_,_,_,_,_,bg,_⟩:=al _ _ h1;obtain⟨t0,_,bh⟩:=qV h1 bg;refine⟨o,t,cs,h1,h2,h3,h4,h5,?_⟩;simp[List.getD,bh,fx,h3,h5]
 have J:Als os.toArray (yR U (os.take m) ts) (A.map (·.1)):=by
  intro i hi;obtain⟨p,D,rfl⟩:=ô.1 hi;obtain⟨o,t,cs,h1,h2,h3,h4,h5,h6⟩:=a8 p D;refine⟨λo2 av=>?_,λu w2 hu=>?_⟩
  .rw[ag _ _ h1]at av;obtain rfl:=Ò av;exact⟨t,_,h2,h3,h4⟩
  rw[h6]at hu;obtain⟨b,rfl,-,hb⟩:=hu;exact⟨b,I,hb.1⟩
 refine J3 m (A.map (·.1)) (by rw[bp]; exact hB) (R:=Ext) (C:=λw'=>Ext w w') (yR U (os.take m) ts) J (below_drewN (ø _ _) 1) (λ_ _ h k=>Ip h k) (WU hU) ?_ ?_
 .intro i o hi ho ρ w' akR ar hC Z4;have am:(os.take m)[i]?=some o:=by rw[List.getElem?_take_of_lt hi]; exact ho
  obtain⟨e',C,cb,cc,_,_,al,_⟩:=af (ŷ ρ) w'.heap.size;obtain⟨e,p,J,cd,r,L1,v,k,ht,D,h1,bj,ce,bg,hr⟩:=al i o am;obtain⟨t0,J,bh⟩:=qV am bg;have br:(yR U (os.take m) ts).getD i top=fx U o t0:=by simp[List.getD,bh]
  rw[br];have bs:∀s∈slotsOf os.toArray o,abr ((os.take m).map (·.dst)) i o.after.toList s=true:=by
   unfold tq at hD;rw[ñ]at hD;have:=hD _ (zI am);simp only[Û,ñ]at this;exact this.2
  have bt:∀s∈slotsOf os.toArray o,ŧ ρ e (.tmp s):=by
   intro s hs s' y di hl;obtain rfl:=Operand.tmp.inj di;refine aiv (x:=xT T (ŷ ρ)) (w:=w') (λs K hK hk=>ai ρ w' s K (ah s K hK) hK hk) ht hl (λj oj hj ab ae=>?_) λa6 h3=>?_
   .have a9:((os.take m).map (·.dst))[j]?=some (some s):=by rw[List.getElem?_map,ab,ě,ae]
    obtain⟨_,g,hg,rfl,hb⟩:=zJ (bs s hs) a9;have:=FB ρ w' o Z4 g hg hb oj ab;rw[ae]at this;exact this
   have an:(os.take m).all (λo => !(o.dst==some s))=true:=by
    rw[ñ];intro oj ab;obtain⟨j,hj⟩:=List.getElem?_of_mem ab;simp only[Ŏ,õ];intro ae;have a9:((os.take m).map (·.dst))[j]?=some (some s):=by rw[List.getElem?_map,hj,ě,ae]
    obtain⟨bd,_⟩:=zJ (bs s hs) a9;exact a6 j oj bd hj ae
   obtain⟨h4,h5⟩:=bq s y h3;rw[ar s an,h5];unfold den;rw[h4]; rfl
  have hR:Gy ρ e o:=by
   intro y hy;cases y with
   | tmp s =>
    refine bt s (ū _ ?_);rw[ő];exact⟨.tmp s,by simpa using hy,I⟩
   | const _=>intro i y h; cases h
   | global _=>intro i y h; cases h
   | func _=>intro i y h; cases h
  have aw:=ay o (List.mem_of_getElem? am);obtain⟨d,hd1⟩:=Į.1 aw;have bb:Mem w' (jZ bl vs):=S.La.ext hC;have ao:∀s:List Nat,s.all (λq=>(Sx.waits os.toArray o).contains q&&(os.take m).any (λo=>o.dst==some q))=true->oQ U (xT T (ŷ ρ)) w' s:=by
   intro s ac;refine LZ λq hq K hK=>?_;rw[ñ]at ac;have bu:=ac q hq;rw[Û]at bu;have bc:q∈Sx.waits os.toArray o:=by simpa using bu.1
   unfold Sx.waits at bc;rw[ő]at bc;obtain⟨g,cf,ax⟩:=bc;split at ax
   .rename_i hb;have bd:g.on<m:=by
     have:=ok.back i o hi (by simpa using ho) g (by simpa using cf) hb;omega
    have az:g.on<os.length:=by have:=ok.le; simp at this; omega
    have ap:(os.take m)[g.on]?=some os[g.on]:=by rw[List.getElem?_take_of_lt bd]; simp[az]
    have bv:os[g.on].dst=some q:=by
     have:os.toArray[g.on]?=some os[g.on]:=by simp[az]
     rw[this]at ax; exact ax
    have h4:=FB ρ w' o Z4 g cf hb _ ap;rw[bv]at h4;have h5:∃t,(yR U (os.take m) ts).getD g.on top=fx U os[g.on] t:=by
     obtain⟨e9,p9,cx,cy,r9,L9,v9,k9,_,_,_,_,_,bk,_⟩:=al g.on _ ap;obtain⟨t9,_,h9⟩:=qV ap bk;exact⟨t9,by simp[List.getD,h9]⟩
    obtain⟨t,h5⟩:=h5;rw[h5]at h4;unfold fx at h4;rw[bv]at h4;simp only[hK]at h4;rw[ai ρ w' q K (ah q K hK) hK h4];exact h4
   cases ax
  have a3:jP e p=true->Does P o ρ w' (λu a7=>Ext w' a7∧fx U o t0 (kept o u) a7):=by
   intro hG;have hg:=Fv h1 akR hR hG bb bj;cases r with
   | val u =>
    obtain⟨rfl,rfl⟩:=hr;refine xA hg å ?_;rw[yQ aw];unfold pT at J;unfold fx;rw[hd1]at J |-;simp only at J |-;cases hl:U.lookup d with
    | some K=>rw[hl]at J; simp at J
    | none =>
     rw[hl]at J;simp only at J;rw[<-J];show u=_root_.cond (jP e p) u undef;rw[hG]; rfl
   | enter f args =>
    obtain⟨rfl,cz⟩:=hr;obtain⟨d',s,aa,ac,aq⟩:=abt (hO _) cb cc _ cz;simp only at aa ac aq;rw[hd1]at aa;obtain rfl:=Ò aa;refine Et hg ((aq w' hC hG (ao s ac)).mono λe2 w2 cm=>?_);obtain⟨u,rfl,hpost,hE⟩:=cm;refine⟨u,I,hE,?_⟩;rw[yQ aw];unfold pT at J;unfold fx;unfold ait at hpost;rw[hd1]at J |-;simp only at J |-;cases hl:U.lookup d with
    | some K=>rw[hl]at hpost; exact hpost
    | none =>
     rw[hl]at hpost J;simp only at hpost J;rw[<-J];show u=_root_.cond (jP e p) v undef;rw[hG,hpost]; rfl
   | new =>
    rcases Sv (Sz h1)with ⟨d',A0,sh,r0,A,v',ty,kk,e1,aa,rfl,dl,hv,a5,cj⟩ | ⟨d',kv,e1,aa,rfl,dm⟩
    .rw[hd1]at aa;obtain rfl:=Ò aa;have be:Key.new d A0 sh r0∈ks w'.heap.size:=ce _ (by rw[e1]; simp);obtain⟨c0,da⟩:=Ū.mem (hN _) be;obtain⟨kl,e2,e3,_⟩:=bj;have e4:kl=[.new d A0 sh r0]:=CP (ks':=cd) (by rw[<-e1]; exact e2);rw[e4]at e3;simp only[đ,ĵ,xq,Ă,and_true,Loc.new.injEq]at e3;obtain⟨rfl,rfl⟩:=e3;subst c0;have hc:Í ρ o=Í (zQ e p) o:=by
      refine execOp_congr o (λcs b e1=>by rw[e1]at a5; cases a5) λy hy=>?_;rw[Κ]at cj;obtain⟨z,hz⟩:=Į.1 (cj y hy);rw[gB akR (hR y hy) hG hz];simp[zQ,hz]
     have bw:(Í ρ o).run P w' = .ok (.value (Ρ sh w'.heap.size)) (w'.alloc (.cells A.toArray ty)):=by rw[hc,nK dl,oI hv]
     refine Hl bw (aI _ _) ?_;rw[yQ aw];unfold fx;rw[hd1];simp only[da];exact⟨w'.heap.size,I,hC.size,Iz _ _ _⟩
    rw[hd1]at aa;obtain rfl:=Ò aa;have be:Key.hand d kv∈ks w'.heap.size:=ce _ (by rw[e1]; simp);obtain⟨q,hq,Zh,bm⟩:=(hH (xT T (ŷ ρ)) w'.heap.size).get (dq w'.heap.size) be;have cq:∀z∈kv,ρ (.tmp z.1)=z.2:=by
     obtain⟨kl,e2,e3,_⟩:=bj;have e4:kl=[.hand d kv]:=CP (ks':=cd) (by rw[<-e1]; exact e2);rw[e4]at e3;simp only[đ,ĵ,xq,Ă,and_true,Loc.hand.injEq]at e3;intro z hz;exact gB akR (hR _ (dm z hz)) hG (aG6.1 e3 z hz)
    unfold Ld at bo;rw[ñ]at bo;have h9:=bo q hq;cases hoq:os[q.1]? with
    | none=>rw[hoq]at h9; cases h9
    | some o2 =>
     rw[hoq]at h9 Zh;have ct:o2.dst=some d:=Zh;simp only[ct,Û,ñ]at h9;obtain⟨⟨db,dd⟩,de⟩:=h9;have cu:i=q.1:=by
      have:=de _ (zI am);simpa[hd1]using this
     have av:o2=o:=by rw[<-cu,ho]at hoq; exact(Ò hoq).symm
     subst av;have bz:=bm o2 hoq ρ w' akR hC (λs hs hl=>by unfold xT; rw[hl]; simp only; unfold ŷ; rw[ņ hs]) cq (ao q.2 (by rw[ñ]; simpa using dd));obtain⟨K,hK⟩:=Į.1 db;unfold Does at bz |-;refine bz.mono λu a7 hu=>⟨hu.1,?_⟩;have I5:=hu.2;unfold hpost at I5;unfold fx;rw[hd1]at I5 |-;simp only[hK]at I5 |-;exact I5
  cases hg:o.guard with
  | none =>
   unfold pathOf at D;rw[hg]at D;obtain rfl:=Ò D;exact a3 I
  | some gb =>
   obtain⟨g,b⟩:=gb;have a4:Rel.valOf ρ ((os.toArray[g]?).bind (·.dst)) = .b b↔jP e p=true:=by
    unfold pathOf at D;rw[hg]at D;simp only at D;cases hs':(os.toArray[g]?).bind (·.dst)with
    | none=>rw[hs']at D; cases D
    | some s =>
     rw[hs']at D;simp only at D;have cv:ŧ ρ e (.tmp s):=bt s (ś _ (by rw[hg]; simp only; rw[hs']; exact û.2 I));cases hl:e.lookup s with
     | none=>simp[hl]at D
     | some x =>
      obtain⟨q,u⟩:=x;have hv:=cv s _ I hl;cases u<;>simp only[hl]at D<;>try (cases D)
      rename_i t;show ρ (.tmp s)=_↔_;rw[hv,uY];unfold den tst;rw[hl];simp only;cases jP e q<;>cases b<;>cases t<;>simp[undef]
   refine⟨λhv=>a3 (a4.1 hv),λhv=>?_⟩;have ca:jP e p=false:=by
    cases h:jP e p with
    | false=>rfl
    | true=>exact absurd (a4.2 h) hv
   unfold pT at J;unfold fx;rw[hd1]at J |-;simp only at J |-;cases hl:U.lookup d with
   | some K =>
    rw[hl]at J;simp only[Ê]at J;rw[ca]at J; cases J.1
   | none =>
    rw[hl]at J;simp only at J;rw[<-J];show undef=_root_.cond (jP e p) v undef;rw[ca]; rfl
 intro a' w' hC dj ci J ar dk;obtain⟨e',C,cb,cc,cg,⟨L,TT,df⟩,al,dh⟩:=af (ŷ a'.eval) 0;have hH:Holds a'.eval e':=by
  intro s y hl;refine aiv (x:=xT T (ŷ a'.eval)) (w:=w') (λs K hK hk=>ai a'.eval w' s K (ah s K hK) hK hk) dh hl (λj oj hj ab ae=>?_) λa6 h3=>?_
  .have:=J j oj ab;rw[ae]at this;exact this
  have an:(os.take m).all (λo => !(o.dst==some s))=true:=by
   rw[ñ];intro oj ab;obtain⟨j,hj⟩:=List.getElem?_of_mem ab;simp only[Ŏ,õ];exact a6 j oj (List.getElem?_eq_some_iff.1 hj).1 hj
  obtain⟨h4,h5⟩:=bq s y h3;rw[ar s an,h5];unfold den;rw[h4]; rfl
 refine next a' w' (ŷ a'.eval) hC (LZ λd cn K hK=>?_) (λp D q hq co=>?_) ((S.grow hC).act (Io df cg (hs _) (by rw[ci,bp]) (by rw[dj,S.s.defers]) hH))
 .rw[ñ]at ck;have:=ck d cn;rw[List.any_eq_true]at this;obtain⟨o,ho,bm⟩:=this;have cw:o.dst=some d:=by simpa using bm
  obtain⟨j,hj⟩:=List.getElem?_of_mem ho;have h4:=J j o hj;obtain⟨e9,p9,cx,cy,r9,L9,v9,k9,_,_,_,_,_,bk,_⟩:=al j o hj;obtain⟨t9,_,h9⟩:=qV hj bk;have h5:(yR U (os.take m) ts).getD j top=fx U o t9:=by simp[List.getD,h9]
  rw[h5]at h4;unfold fx at h4;rw[cw]at h4;simp only[hK]at h4;rw[ai a'.eval w' d K (ah d K hK) hK h4];exact h4
 obtain⟨o1,t1,c1,h1,h2,h3,h4,h5,h6⟩:=a8 p D;obtain⟨o2,t2,c2,k1,k2,k3,k4,k5,k6⟩:=a8 q hq;have f1:=J _ _ h1;have f2:=J _ _ k1;rw[h6,h3]at f1;rw[k6,k3]at f2;rw[ai a'.eval w' p.2 _ (ah _ _ h5) h5 f1,ai a'.eval w' q.2 _ (ah _ _ k5) k5 f2];have lt:∀{i:Nat} {o:YM},(os.take m)[i]?=some o->i<m:=λh=>by
  have:=(List.getElem?_eq_some_iff.1 h).1;simp at this; omega
 have h7:=dk p.1 (ô.2 ⟨p,D,I⟩) q.1 (ô.2 ⟨q,hq,I⟩) (λe=>by
  rw[e]at h1;rw[k1]at h1;obtain rfl:=Ò h1;rw[h3]at k3;exact co (Ò k3)) (lt h1) (lt k1) o1 o2 (ag _ _ h1) (ag _ _ k1)
 rw[h3,k3]at h7;exact h7
abbrev apx(T:List (Nat×Nat))(S:St w0 a w n l bl vs)(m:Nat)(U:Bc)(ks:Nat->List Key)(cs:(Nat->y9)->List y9)(cl:(Nat->y9)->List ϒ)(J:List (List Nat))(new:(Nat->y9)->List (Nat×y9))
  (hU:Ee U) (hO:∀x,Wj P w U x (cl x) J)
  (next:∀D w' y,Ext w w'->oQ U (xT T y) w' (U.map (·.1))->St w0 D w' n (new (xT T y)++l) bl vs->Ã P os.toArray Q (os.drop m) D w')
  (hN:∀r,Ū U w.heap.size r (ks r):=by intro r; exact G) (hk:∀r,oz True P (ks r):=by intro r; exact G)
  (aa:(U.map (·.1)).all (λd=>(os.take m).any (λo=>o.dst==some d))=true:=by kernel_rfl)
  (hB:okB os.toArray m n=true:=by kernel_rfl) (hD:tq os.toArray (os.take m)=true:=by kernel_rfl)
  (hl:Hnd:=[]) (hH:∀x r,qx P w U T x os hl (ks r):=by intro x r; exact G) (ab:∀r,yN os hl (ks r)=true:=by intro r; kernel_rfl) (ac:Ld os m U hl=true:=by kernel_rfl)
  (hT:∀p∈T,∀K,U.lookup p.1=some K->∀v w,K v w->∃a:Array y9,v = .tuple a∧a.size=p.2:=by intro p hp; cases hp) (hx:∀y r,(exec P (jZ bl vs) os.toArray n (os.take m) (lift l) (ks r) (cs (xT T y))).map (ZB (os.take m) U J (new (xT T y)))=some ((new (xT T y)).map (λp=>some ([],p.2)),(ks r).map (xq (jZ bl vs)),(cl (xT T y)).map ϓ,patch U (xT T y) (os.take m) (tv (exec P (jZ bl vs) os.toArray n (os.take m) (lift l) (ks 0) (cs λ_=>undef))),true):=by intro y r; kernel_rfl) (hs:∀y,sZ (os.take m) l (new (xT T y))=true:=by intro y; kernel_rfl) (hn:(decide (n<=1000)&&(U.map (·.1)).all λd=>decide (d<n))=true:=by kernel_rfl):Đ P .any os.toArray Q os.toArray.size (Array.replicate os.toArray.size false) a { w with drawn:=w.drawn+1 }:=
 aiw T [] S m U ks cs cl J new hU hO (λD w' y h1 h2 _ h3=>next D w' y h1 h2 h3) G hN hk aa hB hD hl hH ab ac hT hx hs hn
abbrev apl(A:List (Nat×Nat))(S:St w0 a w n l bl vs)(m:Nat)(U:Bc)(ks:Nat->List Key)(cs:(Nat->y9)->List y9)(cl:(Nat->y9)->List ϒ)(D:List (List Nat))(new:(Nat->y9)->List (Nat×y9))
  (hU:Ee U) (hO:∀x,Wj P w U x (cl x) D)
  (next:∀J w' x,Ext w w'->oQ U x w' (U.map (·.1))->(∀p∈A,∀q∈A,p.2≠q.2->x p.2≠x q.2)->St w0 J w' n (new x++l) bl vs->Ã P os.toArray Q (os.drop m) J w')
  (hA:aeb (os.take m) U w.heap.size A) (hN:∀r,Ū U w.heap.size r (ks r):=by intro r; exact G) (hk:∀r,oz True P (ks r):=by intro r; exact G)
  (J:(U.map (·.1)).all (λd=>(os.take m).any (λo=>o.dst==some d))=true:=by kernel_rfl)
  (hB:okB os.toArray m n=true:=by kernel_rfl) (hD:tq os.toArray (os.take m)=true:=by kernel_rfl)
  (hl:Hnd:=[]) (hH:∀x r,qx P w U [] x os hl (ks r):=by intro x r; exact G) (aa:∀r,yN os hl (ks r)=true:=by intro r; kernel_rfl) (ab:Ld os m U hl=true:=by kernel_rfl)
  (hx:∀y r,(exec P (jZ bl vs) os.toArray n (os.take m) (lift l) (ks r) (cs y)).map (ZB (os.take m) U D (new y))=some ((new y).map (λp=>some ([],p.2)),(ks r).map (xq (jZ bl vs)),(cl y).map ϓ,patch U y (os.take m) (tv (exec P (jZ bl vs) os.toArray n (os.take m) (lift l) (ks 0) (cs λ_=>undef))),true):=by intro y r; kernel_rfl) (hs:∀y,sZ (os.take m) l (new y)=true:=by intro y; kernel_rfl) (hn:(decide (n<=1000)&&(U.map (·.1)).all λd=>decide (d<n))=true:=by kernel_rfl):Đ P .any os.toArray Q os.toArray.size (Array.replicate os.toArray.size false) a { w with drawn:=w.drawn+1 }:=
 aiw [] A S m U ks cs cl D new hU hO next hA hN hk J hB hD hl hH aa ab (λp hp=>by cases hp) hx hs hn
abbrev rJ(S:St w0 a w n l bl vs)(m:Nat)(U:Bc)(ks:Nat->List Key)(cs:(Nat->y9)->List y9)(cl:(Nat->y9)->List ϒ)(D:List (List Nat))(new:(Nat->y9)->List (Nat×y9))
  (hU:Ee U) (hO:∀x,Wj P w U x (cl x) D)
  (next:∀J w' x,Ext w w'->oQ U x w' (U.map (·.1))->St w0 J w' n (new x++l) bl vs->Ã P os.toArray Q (os.drop m) J w')
  (hN:∀r,Ū U w.heap.size r (ks r):=by intro r; exact G) (hk:∀r,oz True P (ks r):=by intro r; exact G)
  (J:(U.map (·.1)).all (λd=>(os.take m).any (λo=>o.dst==some d))=true:=by kernel_rfl)
  (hB:okB os.toArray m n=true:=by kernel_rfl) (hD:tq os.toArray (os.take m)=true:=by kernel_rfl)
  (hl:Hnd:=[]) (hH:∀x r,qx P w U [] x os hl (ks r):=by intro x r; exact G) (aa:∀r,yN os hl (ks r)=true:=by intro r; kernel_rfl) (ab:Ld os m U hl=true:=by kernel_rfl)
  (hx:∀y r,(exec P (jZ bl vs) os.toArray n (os.take m) (lift l) (ks r) (cs y)).map (ZB (os.take m) U D (new y))=some ((new y).map (λp=>some ([],p.2)),(ks r).map (xq (jZ bl vs)),(cl y).map ϓ,patch U y (os.take m) (tv (exec P (jZ bl vs) os.toArray n (os.take m) (lift l) (ks 0) (cs λ_=>undef))),true):=by intro y r; kernel_rfl) (hs:∀y,sZ (os.take m) l (new y)=true:=by intro y; kernel_rfl) (hn:(decide (n<=1000)&&(U.map (·.1)).all λd=>decide (d<n))=true:=by kernel_rfl):Đ P .any os.toArray Q os.toArray.size (Array.replicate os.toArray.size false) a { w with drawn:=w.drawn+1 }:=
 apx [] S m U ks cs cl D new hU hO next hN hk J hB hD hl hH aa ab (λp hp=>by cases hp) hx hs hn
abbrev sH(S:St w0 a w n l bl vs){id:Nat}(m:Nat)(U:Bc)(ks:Nat->List Key)(cs:(Nat->y9)->List y9)(cl:(Nat->y9)->List ϒ)(D:List (List Nat))(new:(Nat->y9)->List (Nat×y9))
  (hU:Ee U) (hO:∀x,Wj P w U x (cl x) D)
  (next:∀J w' x,Ext w w'->oQ U x w' (U.map (·.1))->St w0 J w' n (new x++l) bl vs->Ã P os.toArray Q (os.drop m) J w')
  (hN:∀r,Ū U w.heap.size r (ks r):=by intro r; exact G) (hk:∀r,oz True P (ks r):=by intro r; exact G)
  (J:(U.map (·.1)).all (λd=>(os.take m).any (λo=>o.dst==some d))=true:=by kernel_rfl)
  (aa:P.follows .mixedOrders=true:=by kernel_rfl) (hB:okB os.toArray m n=true:=by kernel_rfl) (hD:tq os.toArray (os.take m)=true:=by kernel_rfl)
  (hl:Hnd:=[]) (hH:∀x r,qx P w U [] x os hl (ks r):=by intro x r; exact G) (ab:∀r,yN os hl (ks r)=true:=by intro r; kernel_rfl) (ac:Ld os m U hl=true:=by kernel_rfl)
  (hx:∀y r,(exec P (jZ bl vs) os.toArray n (os.take m) (lift l) (ks r) (cs y)).map (ZB (os.take m) U D (new y))=some ((new y).map (λp=>some ([],p.2)),(ks r).map (xq (jZ bl vs)),(cl y).map ϓ,patch U y (os.take m) (tv (exec P (jZ bl vs) os.toArray n (os.take m) (lift l) (ks 0) (cs λ_=>undef))),true):=by intro y r; kernel_rfl) (hs:∀y,sZ (os.take m) l (new y)=true:=by intro y; kernel_rfl) (hn:(decide (n<=1000)&&(U.map (·.1)).all λd=>decide (d<n))=true:=by kernel_rfl):(Code.region id os.toArray true).wp P Q a w:=
 ſ aa (rJ S m U ks cs cl D new hU hO next hN hk J hB hD hl hH ab ac hx hs hn)
end
end Go.Sx
abbrev Rf:=@Go.Sx.rn
abbrev Rh:=@Go.Sx.done
abbrev YJ:=@Go.Sx.aT
abbrev È:=@Go.Sx.aK
abbrev ù:=@Go.Sx.wrap_succ
abbrev Ā:=@Go.Sx.cond
abbrev Ė:=@Go.Sx.lD
abbrev Ğ:=@Go.Sx.store
abbrev Ġ:=@Go.Sx.same
abbrev ģ:=@Go.Sx.iW
abbrev Ĺ:=@Go.Sx.store1
abbrev Ņ:=@Go.Sx.enter
abbrev š:=@Go.Sx.draw
abbrev Ţ:=@Go.Sx.news
abbrev ı:=@Go.Sx.gy
