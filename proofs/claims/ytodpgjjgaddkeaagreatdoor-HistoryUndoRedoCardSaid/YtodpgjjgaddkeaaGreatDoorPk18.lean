/- A region that draws its order -/
import Derived.Test.YtodpgjjgaddkeaaGreatDoorPk17
set_option maxRecDepth 100000
set_option maxHeartbeats 9999999
open Go renaming World->Á,Value->À,Calls->Ä,Oper->Ì,Act->í,wpAny->ď
open Go.Proofs.Tryz
set_option linter.unusedVariables false
set_option linter.unusedSimpArgs false
section
namespace Go.Sx
open Go.Proofs.Pv Go.RowKit Go.Rel Go.Sx
theorem SV{P:Program}{ops ops':Array Ì}{Q:Exit->í->Á->Prop}{p q:Nat}{o:Ì}(ho':ops'[p]?=some o)
  (hK:∀(K:í->Á->Prop) a w,wpOp P ops (yI Q) p K a w->∃v,Yields P ops' o v a∧K (a.put o.dst v) w) (hs:Region.noSelect ops'=true) (hpq:p≠q)
  (hap:∀j oj,ops'[j]?=some oj->j≠p->j≠q->(∀e∈oj.after,Region.binds .any e=true->e.on≠p)->o.apart ops' oj=true)
  (hop:∀i K a w,wpOp P ops (yI Q) i K a w->wpOp P ops' (yI Q) i K a w)
  (hA:∀f (L:Array Bool) a w,L.getD p false=true->ď P .any ops (yI Q) f L a w->ď P .any ops' (yI Q) f L a w)
  (hR:∀L:Array Bool,L.getD q true=false->Region.ready .any ops L=Region.ready .any ops' L∧p∉Region.ready .any ops' L)
  (hP:∀L:Array Bool,L.getD q false=true->L.getD p true=false->p∈Region.ready .any ops L∧p∈Region.ready .any ops' L) :
  ∀(f:Nat) (L:Array Bool) (a:í) (w:Á),L.getD q true=false->L.getD p true=false->ď P .any ops (yI Q) f L a w->ď P .any ops' (yI Q) f L a w
 | 0,L,a,w,hq,hp,h=>⟨(hR L hq).1▸h.1,h.2⟩
 | f+1,L,a,w,hq,hp,h=>by
  refine⟨λh0=>h.1 ((hR L hq).1.trans h0),λi hi=>?_⟩
  have h2:=hop i _ a w (h.2 i ((hR L hq).1▸hi))
  have hip:i≠p:=λe=>(hR L hq).2 (e▸hi)
  have hne:∀(j:Nat),j≠i->∀d,(L.setIfInBounds i true).getD j d=L.getD j d:=λj hj d=>by
   simp[Array.getD_eq_getD_getElem?,Array.getElem?_setIfInBounds_ne (Ne.symm hj)]
  by_cases hiq:i=q
  .subst hiq
   refine wpOp_mono (λa' w' h'=>?_) h2
   have hlt:i<L.size:=by
    by_cases h:i<L.size
    .exact h
    .rw[Array.getD_eq_getD_getElem?,Array.getElem?_eq_none Z]at hq; cases hq
   have hq':(L.setIfInBounds i true).getD i false=true:=by simp[Array.getD_eq_getD_getElem?,hlt]
   have hp':(L.setIfInBounds i true).getD p true=false:=by rw[hne p (Ne.symm hip)]; exact hp
   obtain⟨r1,r2⟩:=hP _ hq' hp'
   cases f with
   | zero=>rw[h'.1]at r1; cases r1
   | succ g =>
    obtain⟨v,hy,h3⟩:=hK _ a' w' (h'.2 p r1)
    have hltp:p<L.size:=by
     by_cases h:p<L.size
     .exact h
     .rw[Array.getD_eq_getD_getElem?,Array.getElem?_eq_none Z]at hp; cases hp
    refine wpAny_first ho' (Region.noSelect_spec hs) (λc a w h=>h.elim) g _ a' w' (λj oj hj hjp hun hno=>hap j oj hj hjp (λe=>?_) hno) r2 hy (hA _ _ _ _ (by simp[Array.getD_eq_getD_getElem?,hltp]) h3)
    subst e
    simp[Array.getD_eq_getD_getElem?,hlt]at hun
  .refine wpOp_mono (λa' w' h'=>SV ho' hK hs hpq hap hop hA hR hP f _ a' w' ?_ ?_ h') h2
   .rw[hne q (Ne.symm hiq)]; exact hq
   .rw[hne p (Ne.symm hip)]; exact hp
def Jl(p q t:Nat)(os:List Ì):Bool:=Region.noSelect os.toArray&&p != q&&p != t&&decide (q<os.length)&&(jv os.toArray p==[q])&&(jv os.toArray t).contains q &&
 (match os[p]? with | some o=>o.guard.isNone&&(match o.op with | .extract _ _=>true | _=>false)&&(List.range os.length).all (λj=>j==p||j==q||(jv os.toArray j).contains p||(match os[j]? with | some oj=>o.apart os.toArray oj | none=>true)) | none=>false)
variable{P:Program}
abbrev uG{p t:Nat}{os:List Ì}{j q:Nat}:q∈jv (jT [p] t os).toArray j↔q∈jv os.toArray j∨(j=t∧q=p∧j<os.length):=by
 unfold jv;rw[List.getElem?_toArray,List.getElem?_toArray,tY];by_cases h:j=t
 .subst h;rw[Ï I];cases ho:os[j]? with
  | none=>have:=List.getElem?_eq_none_iff.1 ho; simp; omega
  | some o =>
   have hl:=(List.getElem?_eq_some_iff.1 ho).1;simp only[Ę,Array.toList_append,List.filterMap_append,đ,Ē,ŀ];refine or_congr Iff.rfl ?_;simp[Region.binds,hl,eq_comm]
 rw[É h]; simp[h]
abbrev ahz{L:Array Bool}{q:Nat}(h:L.getD q true=false):L.getD q false=false:=by
 by_cases hl:q<L.size
 .rw[<-qO hl true false]; exact h
 rw[Array.getD_eq_getD_getElem?,Array.getElem?_eq_none Z]at h; cases h
abbrev aaS{ops ops':Array Ì}{L:Array Bool}(hsz:ops.size=ops'.size)(h:∀j,j∈Region.ready .any ops L↔j∈Region.ready .any ops' L):Region.ready .any ops L=Region.ready .any ops' L:=by
 unfold Region.ready at *;rw[hsz]at *;refine List.filter_congr λx hx=>?_;have:=h x;simp only[List.mem_filter,hx,true_and]at this;exact ĩ.2 this
abbrev SX{tt:À}{ix:Nat}:(∃v,∀w,(Instr.extract tt ix).run P w = .ok v w)∨∀w,∃x,(Instr.extract tt ix).run P w = .halt x w:=by
 unfold Instr.extract;split
 .split
  .exact .inl ⟨_,λw=>rfl⟩
  exact .inr λw=>⟨_,I⟩
 exact .inr λw=>⟨_,I⟩
abbrev WT{Q:Exit->í->Á->Prop}{a:í}{w:Á}{os:List Ì}(p q t:Nat)(h:ď P .any (jT [p] t os).toArray (yI Q) os.length (Array.replicate os.length false) a w)
  (hb:Jl p q t os=true:=by kernel_rfl):ď P .any os.toArray (yI Q) os.length (Array.replicate os.length false) a w:=by
 unfold Jl at hb;simp only[æ,bne_iff_ne,ne_eq,Ý,Û]at hb;obtain⟨⟨⟨⟨⟨⟨hs,hpq⟩,hpt⟩,hql⟩,hbp⟩,hbt⟩,hm⟩:=hb;have hbt:q∈jv os.toArray t:=by simpa using hbt
 split at hm
 .rename_i o ho;simp only[æ,ø,aym,ŷ,Û]at hm;obtain⟨⟨hg,hx⟩,hap⟩:=hm;have hg:o.guard=none:=by simpa using hg
  obtain⟨tt,ix,hop⟩:∃tt ix,o.op = .extract tt ix:=by split at hx; exact⟨_,_,by assumption⟩; cases hx
  have hpl:=(List.getElem?_eq_some_iff.1 ho).1;have ho':os.toArray[p]?=some o:=by simpa using ho
  have hop2:(jT [p] t os).toArray[p]?=some o:=by rw[List.getElem?_toArray,tY,É hpt]; exact ho
  have hal:=Aq [p] t os;have hsz:(jT [p] t os).toArray.size=os.toArray.size:=hal.1;have hrep:∀j,j<os.length->∀d,(Array.replicate os.length false).getD j d=false:=λj hj d=>by simp[Array.getD_eq_getD_getElem?,hj]
  have key:=SV (P:=P) (Q:=Q) (ops:=(jT [p] t os).toArray) (ops':=os.toArray) (p:=p) (q:=q) ho' (λK a w h=>?_) hs hpq (λj oj hj h1 h2 h3=>?_) (λi K a w h=>hal.wpOp (λ_ _ h=>h) h) (λf L a w hL h=>?_) (λL hL=>?_) (λL hL hL2=>?_) os.length (Array.replicate os.length false) a w (hrep q hql _) (hrep p hpl _) h
  .simpa using key
  .unfold wpOp at h;rw[hop2]at h;simp only at h;rw[Ï (by simp[Region.wanted,hg])]at h;rcases h with h | ⟨_,h⟩
   .have he:∀w,(execOp a.eval o).run P w=match (Instr.extract (a.eval tt) ix).run P w with | .ok v w => .ok (.value v) w | .halt x w => .halt x w:=λw=>by unfold execOp; simp only[hop]; generalize Instr.extract (a.eval tt) ix=m; simp[go_sem]; cases Sem.run P m w<;>rfl
    rcases SX (P:=P) (tt:=a.eval tt) (ix:=ix)with ⟨v,hv⟩ | hb
    .have hrun:∀w,(execOp a.eval o).run P w = .ok (.value v) w:=λw=>by rw[he,hv]
     exact⟨v,.inl ⟨by simp[Region.wanted,hg],hrun⟩,by unfold Oper.wp at h; rw[hrun w]at h; exact h⟩
    obtain⟨x,hx⟩:=hb w;unfold Oper.wp at h;rw[he,hx]at h;cases x<;>simp only[Oper.upon]at h;exact h.elim
   exact(nX h).elim
  .have hj':os[j]?=some oj:=by simpa using hj
   have:=hap j (List.getElem?_eq_some_iff.1 hj').1;rw[hj']at this;rcases this with ((h4 | h4) | h4) | h4
   .exact absurd h4 h1
   .exact absurd h4 h2
   .obtain⟨e,he,hbe,h5⟩:=(mV hj).1 (by simpa using h4);exact absurd h5 (h3 e he hbe)
   exact h4
  .refine EX (F:=[p]) hal (λi o1 o2 h1 h2 e he hbe=>?_) (λi o1 o2 h1 h2 e he hbe=>?_) f L a w (λi hi=>by rw[Ā.1 hi]; exact hL) h
   .rcases uG.1 ((mV h1).2 ⟨e,he,hbe,rfl⟩)with h3 | h3
    .exact .inr ((mV h2).1 h3)
    exact .inl (by simp[h3.2.1])
   exact(mV h1).1 (uG.2 (.inl ((mV h2).2 ⟨e,he,hbe,I⟩)))
  .have hq:=ahz hL;have hnp:p∉Region.ready .any os.toArray L:=λh=>by
    have:=(jl.1 h).2.2 q (by rw[hbp]; simp);rw[hq]at this; cases this
   refine⟨aaS hsz λj=>?_,hnp⟩;rw[jl,jl,hsz];refine and_congr_right λ_=>and_congr_right λ_=>⟨λg r hr=>g r (uG.2 (.inl hr)),λg r hr=>?_⟩;rcases uG.1 hr with hr | ⟨rfl,-,-⟩
   .exact g r hr
   have:=g q hbt;rw[hq]at this; cases this
  refine⟨jl.2 ⟨by rw[hsz]; simpa using hpl,hL2,λr hr=>?_⟩,jl.2 ⟨by simpa using hpl,hL2,λr hr=>?_⟩⟩
  .rcases uG.1 hr with hr | ⟨h1,-,-⟩
   .rw[hbp]at hr; rw[Ā.1 hr]; exact hL
   exact absurd h1 hpt
  rw[hbp]at hr; rw[Ā.1 hr]; exact hL
 cases hm
abbrev delay{Q:Exit->í->Á->Prop}{a:í}{w:Á}{os:List Ì}{id:Nat}(p q t:Nat)(h:ď P .any (jT [p] t os).toArray (yI Q) (jT [p] t os).toArray.size (Array.replicate (jT [p] t os).toArray.size false) a { w with drawn:=w.drawn+1 })
  (hb:Jl p q t os=true:=by kernel_rfl) (hmo:P.follows .mixedOrders=true:=by kernel_rfl):(Code.region id os.toArray true).wp P Q a w:=by
 rw[show(jT [p] t os).toArray.size=os.length by unfold jT; simp]at h;refine š hmo (tZ _ _ _ _ ?_);have:=WT p q t h hb;simpa using this
abbrev akJ{Q:Exit->í->Á->Prop}{a:í}{w:Á}{os:List Ì}{id:Nat}(p p' q t:Nat)(h:ď P .any (jT [p'] t (jT [p] t os)).toArray (yI Q) (jT [p'] t (jT [p] t os)).toArray.size (Array.replicate (jT [p'] t (jT [p] t os)).toArray.size false) a { w with drawn:=w.drawn+1 })
  (hb:Jl p q t os=true:=by kernel_rfl) (hb':Jl p' q t (jT [p] t os)=true:=by kernel_rfl) (hmo:P.follows .mixedOrders=true:=by kernel_rfl):(Code.region id os.toArray true).wp P Q a w:=by
 have hl:(jT [p] t os).length=os.length:=by unfold jT; simp
 rw[show(jT [p'] t (jT [p] t os)).toArray.size=(jT [p] t os).length by unfold jT; simp]at h;have h2:=WT p' q t h hb';rw[hl]at h2;refine š hmo (tZ _ _ _ _ ?_);have:=WT p q t h2 hb;simpa using this
end Go.Sx
end
namespace Go.Proofs.Pv
section
open Go.RowKit En Go.Sx
variable{α:Type}{K:Nat}
variable{b base cap er:Nat}{u:Á}{r:Q3}
abbrev Za{f:α->À}{w:Á}{v:À}{l:List α}(h:dJ f w v l)(hf:From base v):Sx.dD base (λW=>dJ f W v l) w:=λw' hs hb=>by
 obtain⟨a,cap,rfl,hm,hh⟩:=h;refine⟨a,cap,I,hm,hh.imp id ?_⟩;rintro⟨b,o,rfl,h1,h2,h3⟩;have hk:=hb b h1 (hf _ _ _ I);exact⟨b,o,I,ā h1 hs,h2,λi hi=>(World.cell?_of_block (a:=⟨b,o+i,none⟩) hk).trans (h3 i hi)⟩
abbrev ahA{w:Á}{x:À}{neg:Bool}{a:Nat}(h:au base w x neg a b):∃t:bn,x=t.v∧t.n1=neg∧t.n2=false∧t.l1=Na.LZ a∧t.l2=Na.LZ b∧t.ok w∧From base t.s1∧From base t.s2:=by
 obtain⟨s,t,rfl,h1,h2,f1,f2⟩:=h;obtain⟨a1,c1,rfl⟩:=h1.shape;obtain⟨a2,c2,rfl⟩:=h2.shape;exact⟨⟨neg,a1,c1,Na.LZ a,false,a2,c2,Na.LZ b⟩,I,I,I,I,I,⟨h1,h2⟩,f1,f2⟩
abbrev xQ{w:Á}{t:bn}(h:t.ok w)(hf:From base t.s1∧From base t.s2)(c:Ch b w u)(hb:b<base):t.ok u:=⟨h.1.ch c (λ_=>hf.1.off hb),h.2.ch c (λ_=>hf.2.off hb)⟩
abbrev aes{w:Á}{g:Nat}{s:À}{l:List UInt32}(h:Bx w g #[.z,.sn,.z,.sn])(hs:aF w s l):0<l.length->Off g s:=by
 intro h0 ad n cap e;obtain⟨b,o,c,hv,hb,_,_,hc⟩:=dH hs I h0;rw[hv]at e;simp only[Ĉ,Ò]at e;obtain⟨rfl,-,-⟩:=e;intro hbg;simp only at hbg;subst hbg;have h1:=hc 0 h0;rw[h.2.1]at h1;rcases o with _ | _ | _ | _ | o
 .simp at h1
 .simp at h1
 .simp at h1
 .simp at h1
 simp at h1
abbrev xR{w:Á}{t:bn}(h:t.ok w)(hx:Bx w b #[.z,.sn,.z,.sn])(c:Ch b w u):t.ok u:=⟨h.1.ch c (aes hx h.1),h.2.ch c (aes hx h.2)⟩
abbrev aaT{base':Nat}{w:Á}{t:bn}(h:t.ok w)(hf:From base t.s1∧From base t.s2)(hb:base'<=base):Sx.dD base' (λW=>t.ok W) w:=Ă (Za h.1 (hf.1.mono hb)) (Za h.2 (hf.2.mono hb))
def CZ(r:Q3)(t:bn):Prop:=t.n1=r.1∧t.n2=false∧t.l1=Na.LZ r.2.1∧t.l2=Na.LZ r.2.2
def bn.least(t:bn):Prop:=(t.n1=false∧t.n2=false∧t.l1=[]∧t.l2=[])∨∃r:Q3,CZ r t∧Gy r.1 r.2.1 r.2.2=true
def aT.least(t:aT):Prop:=t.a.least∧t.b.least∧t.c.least∧t.d.least∧t.e.least∧t.f.least
abbrev CZ.q{r:Q3}{t:bn}(h:CZ r t)(hr:Qz r):t.q=r:=by
 unfold bn.q;rw[h.1,h.2.1,h.2.2.1,h.2.2.2,Na.L6,Na.L6,O7 hr.2]
abbrev CZ.fit{l:List UInt8}{i:Int}{r:Q3}{q e:Nat}{t:bn}(h:CZ r t)(hu:Je l i=(r,q,e)):t.fit 5000:=by
 have:=aej hu;exact⟨by rw[h.2.2.1]; omega,by rw[h.2.2.2]; omega⟩
abbrev ahB{l:List UInt8}{p nx:Nat}{bad:Bool}{t:bn}(hu:Je l (p:Int)=(r,nx,er))(h:CZ r t):Got iG Qz l p bad nx false t.q:=λy s hy hb e=>by
 have h2:=Y4 hy e;rw[hu]at h2;simp only[Ô]at h2;obtain⟨rfl,rfl,rfl⟩:=h2;exact⟨h.q hy,I,CX e⟩
abbrev WU{l:List UInt8}{p nx p':Nat}{bad b':Bool}{x:Q3}(hu:Je l (p:Int)=(r,nx,er))(h:bad=true∨er≠0):Got iG Qz l p bad p' b' x:=λy s hy hb e=>by
 have h2:=Y4 hy e;rw[hu]at h2;simp only[Ô]at h2;exfalso;rcases h with h | h
 .rw[h]at hb; cases hb
 exact h h2.2.2
abbrev MP{w0 w:Á}{p:Nat}{a:Option Addr}{bad pk:Bool}{l:List UInt8}(hE:Ext w0 w)(hx:Bx w b #[.s a l.length cap,.i p,.b bad,.b pk])(hb:w0.heap.size<=b)(h:mD w0 (.s a l.length cap) l)(hp:p<=l.length)(hll:l.length<=60000000) :
  Ä prog 164 #[.q b 0] w λe w'=>∃(t:bn) (p':Nat) (d':Bool),e = .R t.v∧t.fit 5000∧t.least∧Sx.dD w.heap.size (λW=>t.ok W) w'∧Got iG Qz l p bad p' d' t.q∧Rds w0 w w' b a l cap pk p' d':=by
 skip;refine Bd func164 ntmps164 hE hx hb λac S=>Î λ_ ig=>ī S 2 Sx.zr λac u b2 E3 hb4 S=>Ê<|ig _ _<|ß (λ_ zy=>?_);obtain⟨rr,nx,er,hu⟩:∃rr nx er,Je l (p:Int)=(rr,nx,er):=⟨_,_,_,I⟩;have hnx:er=0->nx<=l.length:=λe=>by subst e; obtain⟨p',-,-,h2,-⟩:=ML hu; exact h2
 have hyy:=(((Ch.trans (Ch.refl b w) (Ch.bY E3)))).size;have zr0:=(S.bx 0).1;have aZ:=(S.bx 1).1;have hold:=λp hp=>(S.own p hp).1.1;have lg:=S.E.size;refine Sx.akJ 11 12 9 14 ?_;refine qY S 14 [(15,λv w1=>∃t:bn,v = .tuple #[t.v,.i nx,.i er]∧CZ rr t∧t.ok w1∧From u.heap.size t.s1∧From u.heap.size t.s2),(6,λv w1=>∃t:bn,v = .tuple #[t.v,.i nx,.i er]∧CZ rr t∧t.ok w1∧From u.heap.size t.s1∧From u.heap.size t.s2),(16,λv w1=>∃t:bn,v=t.v∧CZ rr t∧t.ok w1∧From u.heap.size t.s1∧From u.heap.size t.s2),(17,λv w1=>v = .i nx),(18,λv w1=>v = .i er),(3,Sx.iK u.heap.size Sx.zr none)] (λr=>[.M 1 0,.M 1 1,.hand 6 [],.hand 16 [],.hand 17 [],.hand 18 [],.new 3 Sx.zr none r]) (λx=>[x 15,x 6,x 16,x 17,x 18,x 3]) (λx=>[(_,_,true,x 15,15)]) [[]] (λx=>[(3,x 3),(16,x 16),(17,x 17),(18,x 18)]) ⟨λ_ _ _ k h=>by obtain⟨t,e,h1,h2⟩:=h; exact⟨t,e,h1,h2.1.below k,h2.2⟩,λ_ _ _ k h=>by obtain⟨t,e,h1,h2⟩:=h; exact⟨t,e,h1,h2.1.below k,h2.2⟩,λ_ _ _ k h=>by obtain⟨t,e,h1,h2⟩:=h; exact⟨t,e,h1,h2.1.below k,h2.2⟩,λ_ _ _ _ h=>h,λ_ _ _ _ h=>h,Sx.iK.mono,G⟩ (λx=>⟨by intro u hC g F; exact(O9 (.s a l.length cap) l (p:Int) _ (gq (aI.below h (Ã S.E hC))) Z).mono λe w2 h=>by obtain⟨x,rfl,hx,hb⟩:=h; exact⟨_,I,(by rw[hu]at hx |-; obtain⟨t,rfl,h1,h2,h3,h4,h5,h6,h7⟩:=ahA hx; exact⟨t,I,⟨h1,h2,h3,h4⟩,h5,h6.mono hC.size,h7.mono hC.size⟩),hb⟩,G⟩) (λac u x E6 F S=>?_) (hN:=λr=>⟨⟨I,I⟩,G⟩) (hk:=λr=>⟨G,G,G,G,G,G⟩) (hl:=[(9,[15]),(10,[6]),(11,[6]),(12,[6])]) (hH:=λx r=>⟨λo ho ρ u hs hE hρ hV F=>by obtain⟨Gn,-⟩:=F; exact jf ho hs [(15,x 15)] (Ŀ (hρ 15 O I)) (x 15) (Ĵ ho I I ô Gn),λo ho ρ u hs hE hρ hV F=>by obtain⟨F6,-⟩:=F; obtain⟨t,e,h2⟩:=F6; exact jf ho hs [(6,.tuple #[t.v,.i nx,.i er])] (Ŀ ((hρ 6 O I).trans e)) (t.v) (Ĵ ho I I ô ⟨t,I,h2⟩),λo ho ρ u hs hE hρ hV F=>by obtain⟨F6,-⟩:=F; obtain⟨t,e,h2⟩:=F6; exact jf ho hs [(6,.tuple #[t.v,.i nx,.i er])] (Ŀ ((hρ 6 O I).trans e)) (.i nx) (Ĵ ho I I ô I),λo ho ρ u hs hE hρ hV F=>by obtain⟨F6,-⟩:=F; obtain⟨t,e,h2⟩:=F6; exact jf ho hs [(6,.tuple #[t.v,.i nx,.i er])] (Ŀ ((hρ 6 O I).trans e)) (.i er) (Ĵ ho I I ô I),G⟩);obtain⟨Gn,F6,F16,Ro,Α,F3,-⟩:=F;clear Gn;clear F6;obtain⟨t,et,hto,htd,hfr⟩:=F16;rw[et]at S;rw[Ro]at S;rw[Α]at S;obtain⟨b7,F3,hb9,X8⟩:=F3;rw[F3]at S;have S:=S.adopt (A:=Sx.zr) X8 Z (λp hp=>by have:=hold p hp; omega) (λm hm=>by cases hm);refine Ĭ S 0 (off:=0) (cs:=t.cells) I (λu C10 S=>?_);have FB:=(cO ((Ch.trans (Ch.refl b w) (Ch.bY (Ã E3 E6)))) C10 (by first | exact .inl I | exact .inr Z));have Az:=(by first | exact xR htd X8 C10 | exact xQ htd hfr C10 Z);refine Ç S 2 [] [(4,.i nx),(5,.i er)] λS=>Ê<|zy _ _<|ß λ_ Oz=>Î λ_ vZ=>Ç S 8 [.M 2 2] [(26,.b (bad||(((er:Int)) != 0)))] λS=>Ê (vZ _ _ ?_);refine Č S (λkC=>?_) (λkC=>?_)
 .refine Î λ_ D6=>Ç S 3 [] [(29,.q b 2)] λS=>ŝ S 2 (off:=2) (v := .b true) I (λu FK S=>?_);have Am:=(cO FB FK (by first | exact .inl I | exact .inr Z));have pI:=(by first | exact xR Az X8 FK | exact xQ Az hfr FK Z);refine Ê<|D6 _ _<|Î λ_ aaq=>Ç S 1 [] [(30,.agg Sx.zr.toArray)] λS=>Ĭ S 1 (off:=0) (cs:=Sx.zr) I (λu C21 S=>?_);have qQ:=(cO Am C21 (by first | exact .inl I | exact .inr Z));have FM:=(by first | exact xR pI X8 C21 | exact xQ pI hfr C21 Z);refine Ê<|aaq _ _<|rtc S 1 results164 I (v := .agg Sx.zr.toArray) ?_;exact⟨.none,p,true,I,bn.gQ 5000,.inl ⟨I,I,I,I⟩,(λW _ _=>bn.fQ W),WU hu (by cases bad; (right; intro e; rw[e]at kC; simp at kC); (left; rfl)),hp,S.E,qQ,S.bx 2⟩
 refine ÿ<|Oz _ _<|Î λ_ VA=>Ç S 4 [] [(32,.i nx),(34,.q b 1)] λS=>ŝ S 2 (off:=1) (v := .i nx) I (λu Ϝ S=>?_);have wV:=(cO FB Ϝ (by first | exact .inl I | exact .inr Z));have BN:=(by first | exact xR Az X8 Ϝ | exact xQ Az hfr Ϝ Z);refine Ê<|VA _ _<|Î λ_ acY=>Ç S 1 [.M 0 0] [(35,t.v)] λS=>Ĭ S 1 (off:=0) (cs:=t.cells) I (λu Ū S=>?_);have Wi:=(cO wV Ū (by first | exact .inl I | exact .inr Z));have Au:=(by first | exact xR BN X8 Ū | exact xQ BN hfr Ū Z);refine Ê<|acY _ _<|Ġ ?_;have hq:bad=false∧er=0:=by cases bad<;>simp at kC |- <;> omega
 obtain⟨rfl,rfl⟩:=hq;refine akK S 1 results164 I (v:=t.v) ?_;exact⟨t,nx,false,I,hto.fit hu,.inr ⟨rr,hto,by obtain⟨_,-,-,-,hq,-⟩:=ML hu; exact hq⟩,aaT Au hfr hyy,ahB hu hto,hnx I,S.E,Wi,S.bx 2⟩
abbrev anr{w0 w:Á}{p:Nat}{a:Option Addr}{bad pk:Bool}{l:List UInt8}(hE:Ext w0 w)(hx:Bx w b #[.s a l.length cap,.i p,.b bad,.b pk])(hb:w0.heap.size<=b)(h:mD w0 (.s a l.length cap) l)(hp:p<=l.length)(hll:l.length<=60000000) :
  Ä prog 117 #[.q b 0] w λe w'=>∃(t:aT) (p':Nat) (d':Bool),e = .R t.v∧t.fit 5000∧t.least∧Sx.dD w.heap.size (λW=>t.ok W) w'∧Got Bg WR l p bad p' d' t.q∧Rds w0 w w' b a l cap pk p' d':=by
 skip;refine YP func117 ntmps117 hE hx hb λS=>Í S (λu b2 E3 hb4 S=>?_);have hy1:=(((Ch.trans (Ch.refl b w) (Ch.bY E3)))).size;refine Í S λu b6 E7 hb8 S=>Í S λu b11 uM Z8 S=>Qu S 6 λS=>â S λS=>Å S 5 [] [.M 0 0] (λS=>?_);have S:=S.fl;have y18:=(((Ch.trans (Ch.refl b w) (Ch.bY (Ã E3 (Ã E7 uM)))))).size;have atG:=(S.bx 0).1;have atH:=(S.bx 1).1;have atI:=(S.bx 2).1;have atJ:=(S.bx 3).1;refine Ď S 3 I (MP (hll:=hll) S.E (S.bx 3) (S.old 3) h hp) ?_;rintro e u ⟨t18,p18,d18,rfl,apS,apT,apU,g18,aeu,aev,Jm,aew⟩;refine⟨_,_,I,aev,Jm,aew,λS=>?_⟩;have ant:=Jm.size;have pI:=(cO ((Ch.trans (Ch.refl b w) (Ch.bY (Ã E3 (Ã E7 uM))))) Jm);refine à S 1 I (λu Ia S=>?_);have wu:=(cO pI Ia);have qQ:=(dD.ch apU Ia Z);refine â S λS=>Å S 5 [] [.M 0 1] (λS=>?_);have S:=S.fl;have y27:=(wu).size;have atK:=(S.bx 0).1;have atL:=(S.bx 1).1;have atM:=(S.bx 2).1;have atN:=(S.bx 3).1;refine Ď S 3 I (MP (hll:=hll) S.E (S.bx 3) (S.old 3) h aeu) ?_;rintro e u ⟨t27,p27,d27,rfl,apV,apW,apX,g27,apY,akL,aaU,akM⟩;refine⟨_,_,I,akL,aaU,akM,λS=>?_⟩;have auX:=aaU.size;have KG:=(cO wu aaU);have wG:=(dD.ch qQ aaU Z);refine à S 1 I (λu Qp S=>?_);have Au:=(cO KG Qp);have BP:=(dD.ch wG Qp Z);have zf:=(dD.ch apX Qp Z);refine â S λS=>Å S 5 [] [.M 0 2] (λS=>?_);have S:=S.fl;have y38:=(Au).size;have anu:=(S.bx 0).1;have anv:=(S.bx 1).1;have anw:=(S.bx 2).1;have atO:=(S.bx 3).1;refine Ď S 3 I (MP (hll:=hll) S.E (S.bx 3) (S.old 3) h apY) ?_;rintro e u ⟨t38,p38,d38,rfl,akN,apZ,ap0,g38,anx,aex,Pj,akO⟩;refine⟨_,_,I,aex,Pj,akO,λS=>?_⟩;have ap1:=Pj.size;have KU:=(cO Au Pj);have Ea:=(dD.ch BP Pj Z);have IV:=(dD.ch zf Pj Z);refine à S 1 I (λu C42 S=>?_);have FX:=(cO KU C42);have OH:=(dD.ch Ea C42 Z);have KX:=(dD.ch IV C42 Z);have ajK:=(dD.ch ap0 C42 Z);refine â S λS=>Å S 5 [] [.M 0 3] (λS=>?_);have S:=S.fl;have y51:=(FX).size;have atP:=(S.bx 0).1;have atQ:=(S.bx 1).1;have atS:=(S.bx 2).1;have atT:=(S.bx 3).1;refine Ď S 3 I (MP (hll:=hll) S.E (S.bx 3) (S.old 3) h anx) ?_;rintro e u ⟨t51,p51,d51,rfl,ap2,ap3,ap4,g51,ap5,ap6,aaV,ap7⟩;refine⟨_,_,I,ap6,aaV,ap7,λS=>?_⟩;have auY:=aaV.size;have FW:=(cO FX aaV);have OD:=(dD.ch OH aaV Z);have ajL:=(dD.ch KX aaV Z);have ajM:=(dD.ch ajK aaV Z);refine à S 1 I (λu ϛ S=>?_);have RZ:=(cO FW ϛ);have ac1:=(dD.ch OD ϛ Z);have FI:=(dD.ch ajL ϛ Z);have Wu:=(dD.ch ajM ϛ Z);have Wj:=(dD.ch ap4 ϛ Z);refine â S λS=>Å S 5 [] [.M 0 4] (λS=>?_);have S:=S.fl;have y66:=(RZ).size;have atU:=(S.bx 0).1;have atV:=(S.bx 1).1;have atW:=(S.bx 2).1;have atX:=(S.bx 3).1;refine Ď S 3 I (MP (hll:=hll) S.E (S.bx 3) (S.old 3) h ap5) ?_;rintro e u ⟨t66,p66,d66,rfl,ap8,ap9,aqa,g66,aqb,aqc,WV,aqd⟩;refine⟨_,_,I,aqc,WV,aqd,λS=>?_⟩;have auZ:=WV.size;have ac3:=(cO RZ WV);have Vy:=(dD.ch ac1 WV Z);have Vz:=(dD.ch FI WV Z);have akP:=(dD.ch Wu WV Z);have ahC:=(dD.ch Wj WV Z);refine à S 1 I (λu C72 S=>?_);have akQ:=(cO ac3 C72);have adI:=(dD.ch Vy C72 Z);have adJ:=(dD.ch Vz C72 Z);have Wn:=(dD.ch akP C72 Z);have aha:=(dD.ch ahC C72 Z);have aau:=(dD.ch aqa C72 Z);refine â S λS=>Å S 5 [] [.M 0 5] (λS=>?_);have S:=S.fl;have y83:=(akQ).size;have atY:=(S.bx 0).1;have atZ:=(S.bx 1).1;have at1:=(S.bx 2).1;have at6:=(S.bx 3).1;refine Ď S 3 I (MP (hll:=hll) S.E (S.bx 3) (S.old 3) h aqb) ?_;rintro e u ⟨t83,p83,d83,rfl,aqe,aqf,aqg,g83,aqh,aqi,SY,aqj⟩;refine⟨_,_,I,aqi,SY,aqj,λS=>?_⟩;have au0:=SY.size;have akR:=(cO akQ SY);have akS:=(dD.ch adI SY Z);have RX:=(dD.ch adJ SY Z);have Wp:=(dD.ch Wn SY Z);have adK:=(dD.ch aha SY Z);have adL:=(dD.ch aau SY Z);refine à S 1 I (λu C90 S=>?_);have adM:=(cO akR C90);have aqk:=(dD.ch akS C90 Z);have akT:=(dD.ch RX C90 Z);have akU:=(dD.ch Wp C90 Z);have aql:=(dD.ch adK C90 Z);have aqm:=(dD.ch adL C90 Z);have akV:=(dD.ch aqg C90 Z);refine ú S λS=>Å S 1 [] [.M 1 0] λS=>à S 2 I (λu WW S=>?_);have ac4:=(cO adM WW);have anz:=(dD.ch aqk WW Z);have anA:=(dD.ch akT WW Z);have aey:=(dD.ch akU WW Z);have aez:=(dD.ch aql WW Z);have aeA:=(dD.ch aqm WW Z);have aeB:=(dD.ch akV WW Z);refine ă S 2 I (v := .agg (t18.cells++t27.cells++t38.cells++t51.cells++t66.cells++t83.cells).toArray) (λS=>?_);exact⟨⟨t18,t27,t38,t51,t66,t83⟩,_,_,I,⟨apS,apV,akN,ap2,ap8,aqe⟩,⟨apT,apW,apZ,ap3,ap9,aqf⟩,(Ă (Sx.dD.le anz Z) (Ă (Sx.dD.le anA Z) (Ă (Sx.dD.le aey Z) (Ă (Sx.dD.le aez Z) (Ă (Sx.dD.le aeA Z) (Sx.dD.le aeB Z)))))),ahs g18 g27 g38 g51 g66 g83,aqh,S.E,ac4,S.pV 3⟩
abbrev aaW{w0:Á}{a:Option Addr}{l:List UInt8}{c p:Nat}(h:mD w0 (.s a l.length c) l)(hp:p+1<=l.length) :
  ∃bk o,(.s (sO a p c 1) (p+1-p) (c-p):À) = .s (some ⟨bk,o,none⟩) 1 (c-p)∧bk<w0.heap.size∧w0.rangeAt bk o (((l.drop p).take 1).map iO):=by
 obtain⟨hl,bk,o,rfl,hb,hr⟩:=SB h hp Z;refine⟨bk,o+p*1,?_,hb,by rw[Nat.mul_one]; exact hr⟩;unfold sO;rw[É Z,azg]; simp[Addr.add]
abbrev ahD{l:List UInt8}{p:Nat}{bad:Bool}:∃c,YN l p bad 1=[c]:=List.length_eq_one_iff.1 YO
abbrev aeC(c:UInt8):((c.toNat:Int)==1)=(c==1):=by
 rw[ĩ,Û,Û];exact⟨λh=>Ϩ.1 (by have h1:c.toNat=1:=Z; rw[h1]; rfl),λh=>by rw[h]; rfl⟩
abbrev aeD{w:Á}{n:ah}(h1:I64 n.id)(h2:I64 n.kind)(h3:I64 n.depth)(h4:Sx.dD base (λW=>n.t.ok W) w)(h5:Sx.dD base (λW=>aI 7 dQ.cells W n.cs n.clip) w)(h5':∀s∈n.clip,s.ok)(h6:I64 n.aJ)(h7:I64 n.blend)
  (h8:Sx.dD base (λW=>aI 7 dQ.cells W n.ps n.path) w) (h8':∀s∈n.path,s.ok) (h9:I64 n.aW) (h10:Sx.dD base (λW=>iQ W n.fs n.fill) w) (h11:Sx.dD base (λW=>n.style.ok W) w) (h12:Sx.dD base (λW=>iQ W n.ss n.stroke) w) (h13:Sx.dD base (λW=>n.img.ok W) w) (LY:I64 n.dw) :
  Sx.dD base (λW=>n.ok W) w:=λW hs hk=>⟨h1,h2,h3,h4 W hs hk,⟨h5 W hs hk,h5'⟩,h6,h7,⟨h8 W hs hk,h8'⟩,h9,h10 W hs hk,h11 W hs hk,h12 W hs hk,h13 W hs hk,LY⟩
def ah.fits(n:ah):Prop:=n.t.fit 5000∧(∀p∈n.fill,p.t.fit 5000)∧(∀p∈n.stroke,p.t.fit 5000)∧n.t.least
abbrev aaX{w0 w:Á}{p:Nat}{a:Option Addr}{bad pk:Bool}{l:List UInt8}(hE:Ext w0 w)(hx:Bx w b #[.s a l.length cap,.i p,.b bad,.b pk])(hb:w0.heap.size<=b)(h:mD w0 (.s a l.length cap) l)(hp:p<=l.length) :
  Ä prog 116 #[.q b 0,.i 1] w λe w'=>∃bk o c,e = .R (.s (some ⟨bk,o,none⟩) 1 c)∧w'.rangeAt bk o ((YN l p bad 1).map iO)∧bk<w'.heap.size∧(bk<w0.heap.size∨w.heap.size<=bk)∧Ext w0 w'∧Ch b w w'∧Bx w' b #[.s a l.length cap,.i (Β l p bad 1:Nat),.b (I8 l p bad 1),.b pk]:=by
 have hml:l.length<=9223372036854775807:=h.len;refine YP func116 ntmps116 hE hx hb λS=>Ą S 22 [.M 0 2,.M 0 0,.M 0 1,.re 24 (.i (IntKind.i64.wrap ((l.length:Int)-(p:Int)))) (.i (l.length-p:Nat))] [] [(26,.b ((bad||false)||(decide (((l.length-p:Nat):Int)<1))))] trivial (hk:=⟨(xK Z Z),G⟩) λu E4 S=>È S ((bad||false)||(decide (((l.length-p:Nat):Int)<1))) (λhc5 S=>?_) (λhc5 S=>?_)
 .refine Wx S 0 (off:=2) (v := .b true) I (λu C7 S=>?_);have Fs8:=(cO ((Ch.trans (Ch.refl b w) (Ch.bY E4))) C7);have hws:=(Fs8).size;refine Ú S [.u 0] (λu b10 BH BQ S=>?_);have hbad:I8 l p bad 1=true:=by unfold I8; cases bad; (simp at hc5 |-; omega); rfl
  refine Æ S (.s (some ⟨b10,0,none⟩) 1 1) (λS=>?_);exact⟨_,_,_,I,by rw[(Ed hbad).2]; exact(S.bx 0).range 0 1 I,(S.bx 0).1,.inr (by have:=BQ; omega),S.E,((Ch.trans Fs8 (Ch.bY BH))),by rw[(Ed hbad).1,hbad]; exact S.bx 1⟩
 have hok:I8 l p bad 1=false:=by unfold I8; cases bad; (simp at hc5 |-; omega); simp at hc5
 have hlen:=(I9 hok).2.1;have hcap:=jo h;refine Å S 8 [] [.M 0 1,.re 39 (.i (IntKind.i64.wrap ((p:Int)+1))) (.i (p+1:Nat))] (hk:=⟨(xK Z Z),G⟩) λS=>Wx S 0 (off:=1) (v := .i (p+1:Nat)) I (λu C14 S=>?_);have sK:=(cO ((Ch.trans (Ch.refl b w) (Ch.bY E4))) C14);refine Ą S 15 [.M 0 0,.M 0 1,.re 51 (.i (IntKind.i64.wrap (((p+1:Nat):Int)-1))) (.i p),.M 0 1,.slc p (p+1) cap cap] [] [(56,.s (sO a p cap 1) (p+1-p) (cap-p))] trivial (λu AA S=>?_) (hk:=⟨(xK Z Z),Z,G⟩);obtain⟨bk,o,hv,hk1,hr⟩:=aaW h hlen;have ho:=I9 hok;refine Æ S (.s (sO a p cap 1) (p+1-p) (cap-p)) (λS=>?_);exact⟨bk,o,cap-p,Ñ Ending.returned hv,by rw[ho.2.2.2]; exact Vp.qG hr hk1 S.E,ā hk1 S.E.size,.inl hk1,S.E,((Ch.trans sK (Ch.bY AA))),by rw[ho.2.2.1,hok]; have:=S.bx 0; rw[ho.1]at this; exact this⟩
abbrev WX{w0 w:Á}{p:Nat}{a:Option Addr}{bad pk:Bool}{l:List UInt8}(hE:Ext w0 w)(hx:Bx w b #[.s a l.length cap,.i p,.b bad,.b pk])(hb:w0.heap.size<=b)(h:mD w0 (.s a l.length cap) l)(hp:p<=l.length) :
  Ä prog 116 #[.q b 0,.i 1] w λe w'=>∃bk o c x p' d',e = .R (.s (some ⟨bk,o,none⟩) 1 c)∧w'.rangeAt bk o [iO x]∧bk<w'.heap.size∧(bk<w0.heap.size∨w.heap.size<=bk)∧aek l p bad p' d' x∧Rds w0 w w' b a l cap pk p' d':=
 (aaX hE hx hb h hp).mono λe w' ⟨bk,o,c,h1,hr,hlt,hor,h2,h3,h4⟩=>by
  obtain⟨x,hx⟩:=@ahD l p bad
  exact⟨bk,o,c,x,_,_,h1,by rw[hx]at hr; exact hr,hlt,hor,ael hx,ad1 hp,h2,h3,h4⟩
end
section
open Go.RowKit Go.Sx
variable{α:Type}{K:Nat}
variable{v:À}{t:aT}
abbrev S9{f:α->À}{w:Á}{l:List α}(h:dJ f w v l):aI 1 (λx=>[f x]) w v l:=by
 obtain⟨a,cap,rfl,hm,hh⟩:=h;refine⟨a,cap,I,hm,hh.imp id ?_⟩;rintro⟨b,o,rfl,hb,hl,hc⟩;refine⟨b,o,I,hb,hl,λi hi j hj=>?_⟩;obtain rfl:j=0:=by omega
 rw[show o+i*1+0=o+i by omega,hc i hi]; rfl
abbrev oG(m:List UInt8):(gI.app m).length=m.length+4:=by simp[gI.app,gI.le4]
def Ver(l m:List UInt8)(k:Int):Prop:=(k=4∧l.length<4)∨(k=19∧4<=l.length∧∀m',l≠gI.app m')∨(k=0∧l=gI.app m)
abbrev Tc{w:Á}{l:List UInt8}(h:mD w v l)(hl:l.length<=100000000000) :
  Ä prog 43 #[v] w λe w'=>∃v' m k,e = .R (.tuple #[v',.i k])∧mD w' v' m∧Ext w w'∧Ver l m k:=by
 rcases ĳ l.length 4 with h4 | h4
 .refine(OU v l w (gq h) h4).mono ?_;rintro e w' ⟨rfl,rfl⟩;exact⟨_,[],_,I,iR _ _ _,ô,.inl ⟨I,h4⟩⟩
 refine(SH v l (l.length-4) w (gq h) Z Z).mono ?_;rintro e w' ⟨v',k,rfl,hE,h1,h2⟩;by_cases hd:l.drop (l.length-4)=gI.le4 (gI.update 0 (l.take (l.length-4)))
 .obtain⟨rfl,hb⟩:=h1 hd;exact⟨v',_,_,I,S9 hb,hE,.inr (.inr ⟨I,by unfold gI.app; rw[<-hd,ň]⟩)⟩
 obtain⟨rfl,rfl⟩:=h2 hd;refine⟨_,[],_,I,iR _ _ _,hE,.inr (.inl ⟨I,h4,λm' e=>hd ?_⟩)⟩;have hm:l.length-4=m'.length:=by rw[e,oG]; omega
 rw[hm,e]; unfold gI.app; rw[List.take_left,ayY]
abbrev Ver.le{l m:List UInt8}{k:Int}(h:Ver l m k)(h0:k=0):l=gI.app m:=by rcases h with ⟨rfl,-⟩ | ⟨rfl,-⟩ | ⟨-,h⟩; (cases h0); (cases h0); exact h
def Opn(w w':Á)(l M:List UInt8)(pv:À)(er:Int):Prop:=
 (er≠0∧pv = .pointer none∧((er=4∧l.length<4)∨(er=19∧4<=l.length∧∀m,l≠gI.app m)∨(er=3∧∃m,l=gI.app m∧¬m.take 3=M))) ∨
 (er=0∧∃m b a1 c1 wm,l=gI.app m∧m.take 3=M∧pv = .q b 0∧Ext w wm∧mD wm (.s a1 m.length c1) m∧wm.heap.size<=b∧Ext wm w'∧Bx w' b #[.s a1 m.length c1,.i (3:Nat),.z,.z])
abbrev MQ{w:Á}{l:List UInt8}{c0 c1' c2:UInt8}(h:mD w v l)(hl:l.length<=60000000) :
  Ä prog 76 #[v,.string ⟨#[c0,c1',c2]⟩] w λe w'=>∃pv er,e = .R (.tuple #[pv,.i er])∧Ext w w'∧Opn w w' l [c0,c1',c2] pv er:=by
 replace hl:l.length<=100000000000:=by omega
 obtain⟨a,cap,rfl⟩:=h.shape;refine Ŗ func76 ntmps76 λac S=>Î λ_ ig=>Ç S 2 [] [(4,(.pointer none)),(5,.i 0)] λS=>Ê<|ig _ _<|Î λ_ Qw=>Ç S 1 [] [(9,.s a l.length cap)] λS=>nZ S (some 10) (Tc h hl) ?_;rintro e u ⟨v1,m,er,rfl,hv1,E3,aaY⟩;obtain⟨a1,c1,rfl⟩:=hv1.shape;refine⟨_,I,E3,λac S=>?_⟩;obtain⟨wm,hwm⟩:∃x,x=u:=⟨_,I⟩;have hbm:mD wm (.s a1 m.length c1) m:=hwm▸hv1;have aqn:Ext w wm:=hwm▸S.E;have WY:Ext wm u:=hwm▸ô;clear hwm;refine Ç S 5 [] [(6,.s a1 m.length c1),(7,.i er)] λS=>Ê<|Qw _ _<|ß λ_ Χ=>Î λ_ zy=>Ç S 2 [] [(14,.b ((er) != 0))] λS=>Ê (zy _ _ ?_);refine Č S (λhc6=>?_) (λhc6=>?_)
 .refine Î λ_ Qx=>Ç S 3 [] [(4,(.pointer none)),(5,.i er)] λS=>Ê<|Qx _ _<|rt2 S results76 ?_;refine⟨_,_,I,S.E,.inl ⟨λe=>by rw[e]at hc6; simp at hc6,I,?_⟩⟩;rcases aaY with h1 | h1 | ⟨h1,-⟩; (exact .inl h1); (exact .inr (.inl h1)); rw[h1]at hc6; simp at hc6
 refine ÿ<|Χ _ _<|ß λ_ Gq=>Î λ_ Ŭ=>Ç S 2 [] [(16,.s a1 m.length c1),(17,.string ⟨#[c0,c1',c2]⟩)] λS=>Sx.bytesOf S 18 [c0,c1',c2] underlying9 underlying53 underlying5 (by simp[maxLen]) λ{ac u b12 c13} NQ akW S=>zJ S 19 (La (w:=u) (aI.below hbm ((Ã WY NQ))) ((S9 akW))) λac u vV S=>Ç S 1 [] [(20,.b (!(decide ([c0,c1',c2].length<=m.length)&&(m.take [c0,c1',c2].length==[c0,c1',c2]))))] λS=>Ê (Ŭ _ _ ?_);refine Č S (λkC=>?_) (λkC=>?_)
 .refine Î λ_ D6=>Ç S 2 [] [(4,(.pointer none)),(5,.i 3)] λS=>Ê<|D6 _ _<|Ġ ?_;have hez:er=0:=by have:=hc6; simpa using this
  have hla:=aaY.le hez;refine Oy S results76 ?_;exact⟨_,_,I,S.E,.inl ⟨by decide,I,.inr (.inr ⟨I,m,hla,λe=>by have e:m.take 3=[c0,c1',c2]:=e; have e2:=Ñ List.length e; have:=kC; simp[e]at this; simp at e2; omega⟩)⟩⟩
 refine ÿ<|Gq _ _<|Î (λ_ NU=>?_);have hws:=(((Ã WY (Ã NQ vV)))).size;refine Ç S 4 [] [(24,.agg #[.s a1 m.length c1,.i 3,.z,.z])] λS=>ī S 25 [.s a1 m.length c1,.i 3,.z,.z] λac u b18 KN ajU S=>Ç S 2 [] [(4,.q b18 0),(5,.i 0)] λS=>Ê<|NU _ _<|Ġ ?_;have hez:er=0:=by have:=hc6; simpa using this
 have hla:=aaY.le hez;refine Oy S results76 ?_;exact⟨_,_,I,S.E,.inr ⟨I,m,_,_,_,wm,hla,by have:=kC; simp at this; exact this.2,I,aqn,hbm,by have:=ajU; omega,((Ã WY (Ã NQ (Ã vV KN)))),S.bx 0⟩⟩
abbrev Tf(hK:K<=10000){w0 w:Á}{v0 u0:À}{B:List UInt8}{L:List bn}(hE:Ext w0 w)(ho:OwnB w0.heap.size w v0 B)(h:aI 4 bn.cells w0 u0 L)(hok:∀r∈L,r.ok w0∧r.fit K)(hB0:(B++L.flatMap (λr:bn=>iG r.q)).length<=1000000000) :
  Ä prog 126 #[v0,u0,.func (.func 127) #[] #[]] w λe w'=>∃v,e = .R v∧OwnB w0.heap.size w' v (B++L.flatMap (λr:bn=>iG r.q))∧Ext w0 w':=by
 obtain⟨a,cap,rfl⟩:=h.shape;have hmax:L.length<=9223372036854775807:=h.len;refine zeE func126 ntmps126 hE (λS=>?_);have R:=CW (ĺ S) ho (λp hp=>by cases hp) (Ó _);refine ĕ S (ι:=Nat×À) (λp a' w'=>p.1<=L.length∧(True)∧Sx.Rw w0 w' [] [⟨5,1,p.2,(B++(L.take p.1).flatMap (λr:bn=>iG r.q)).length,(B++(L.take p.1).flatMap (λr:bn=>iG r.q)).map iO⟩]∧Sx.St w0 a' w' 22 [(0,p.2),(1,.s a L.length cap),(2,.func (.func 127) #[] #[]),(6,.sn),(9,.s a L.length cap),(10,.i L.length),(11,.i p.1)] [] []) (λp=>L.length-p.1) (0,v0) (λS=>⟨Õ _,G,R.as (show [Sx.bR v0 B]=[Sx.bR v0 (B++(L.take 0).flatMap (λr:bn=>iG r.q))] by simp),S.sn⟩) ?_;rintro⟨k,v⟩ ac u ig fC hI;try dsimp only at hI
 obtain⟨hk,hR,R,S⟩:=hI;refine Ė S λS=>È S (decide ((k:Int)<(L.length:Int))) (λhc6 S=>?_) (λhc6 S=>?_)
 .have ku:k<L.length:=by have:=å hc6; omega
  obtain⟨b9,o10,rfl,x15,pJ,hb16,Ih⟩:=û h (λ_=>I) (k) ku;have S:=S.view0 hb16 Ih;refine Å S 2 [] [.idx k L.length,.M 0 0] (hk:=⟨ku,G⟩) λS=>Ú S Sx.zr λu b17 BG aap S=>è S 0 (off:=0) (cs:=x15.cells) I λu Ia S=>Å S 3 [] [.M 0 0] λS=>zq S (vY x15.n1 x15.n2 x15.s1 x15.s2 x15.l1 x15.l2 _ ((hok _ (pJ▸þ ku)).1.1.below S.E) ((hok _ (pJ▸þ ku)).1.2.below S.E) (by have:=(hok _ (pJ▸þ ku)).2.1; omega) (by have:=(hok _ (pJ▸þ ku)).2.2; omega)) (λv18 u akX FC S=>?_);have hB:=aja hB0 (k+1);rw[<-Gx ku pJ]at hB;obtain⟨R,Y22⟩:=R.dM S (é (Sx.Stp.FT BG aap) (é (Sx.Stp.V3 Ia) (ć FC)));refine ċ S λS=>ů S R 19 ((λr:bn=>iG r.q) x15) (Ba (akX)) (by simp only[ì]at hB |-; omega) λac u v23 ž R S=>FV S λS=>Å S 3 [] [.re 20 (.i (IntKind.i64.wrap ((k:Int)+1))) (.i (k+1:Nat))] (λS=>?_) (hk:=⟨ą Z,G⟩);have S:=S.l9 1;obtain⟨R,Y25⟩:=R.dM S (Ω 1);refine ė S ig (λS=>?_);exact fC _ _ ((k+1),v23) ⟨Z,G,R.as (show [Sx.bR v23 (B++(L.take k).flatMap (λr:bn=>iG r.q)++(λr:bn=>iG r.q) x15)]=[Sx.bR v23 (B++(L.take (k+1)).flatMap (λr:bn=>iG r.q))] by rw[Gx ku pJ]),S.sn⟩ (by show _-_<_-_; omega)
 refine Æ S v (λS=>?_);exact⟨_,I,by have:=R.own _ ë; rw[Ĝ (by have:=ñ hc6; omega)]at this; exact this,S.E⟩
abbrev ahE{w:Á}(h:t.ok w)(hf:t.fit K):∀r∈[t.a,t.b,t.c,t.d,t.e,t.f],r.ok w∧r.fit K:=by
 intro r hr;simp only[ç,List.not_mem_nil,or_false]at hr;rcases hr with rfl | rfl | rfl | rfl | rfl | rfl
 .exact⟨h.1,hf.1⟩
 .exact⟨h.2.1,hf.2.1⟩
 .exact⟨h.2.2.1,hf.2.2.1⟩
 .exact⟨h.2.2.2.1,hf.2.2.2.1⟩
 .exact⟨h.2.2.2.2.1,hf.2.2.2.2.1⟩
 exact⟨h.2.2.2.2.2,hf.2.2.2.2.2⟩
abbrev aaZ{w:Á}(h:t.ok w)(hf:t.fit K)(hK:K<=10000)(hB:(Bg t.q).length<=1000000000) :
  Ä prog 87 #[t.v] w λe w'=>∃v,e = .R v∧OwnB w.heap.size w' v (Bg t.q)∧Ext w w':=by
 skip;refine Ë func87 ntmps87 λS=>Í S λu b2 E3 hb4 S=>Å S 13 [] [.M 0 0,.M 0 4,.M 0 8,.M 0 12,.M 0 16,.M 0 20] λS=>Í S (λu b6 E7 hb8 S=>?_);have S0:=S.E.size;have hoE:=S.E;refine zq S (Tf hK (v0 := .sn) (B:=[]) (L:=[t.a,t.b,t.c,t.d,t.e,t.f]) ô (ayS _ _ _ _) (CV (f:=bn.cells) [t.a,t.b,t.c,t.d,t.e,t.f] (λ_=>I) (S.pV 0) (by simp[maxLen])) (ahE (h.below hoE) hf) (by rw[ĵ]; exact hB)) λv16 u aeE E9 S=>Æ S v16 (λS=>?_);exact⟨_,I,bK (aeE) S0,S.E⟩
abbrev MR{w:Á}{b:Bool} :
  Ä prog 90 #[.b b] w (RF w (iO (rH b))):=by
 skip;refine Ë func90 ntmps90 λS=>È S (b) (λhc4 S=>?_) (λhc4 S=>?_)
 .refine Æ S (.u 1) (λS=>?_);exact⟨by rw[hc4]; rfl,S.E⟩
 refine Æ S (.u 0) (λS=>?_);exact⟨by rw[hc4]; rfl,S.E⟩
end
end Go.Proofs.Pv
section
namespace Go.Sx
open Go.Proofs Go.Proofs.Pv Go.RowKit Go.Rel Go.Sx
section
variable{Q:Exit->í->Á->Prop}{w0 w:Á}{a:í}{os:List Ì}{n:Nat}{l:List (Nat×À)}{bl:List (Nat×List À)}{vs:List eU}
abbrev Gr (v:À)(x y:Á):Prop:=x.grownBy y v.ownBlock
abbrev Gr.trans{v:À}{x y z:Á}(h:Gr v x y)(k:Gr v y z):Gr v x z:=⟨k.os.trans h.os,k.tape.trans h.tape,k.output.trans h.output,ï h.size k.size,λi hi hn=>(k.block i (ā hi h.size) hn).trans (h.block i hi hn)⟩
abbrev Gr.ext{v:À}{x y:Á}(h:Ext x y):Gr v x y:=⟨h.os,h.tape,h.output,h.size,λi hi _=>h.block i hi⟩
abbrev iK.gr{base:Nat}{A:List À}{sh:Option Nat}{v u:À}{x y:Á}(hv:∀b,v.ownBlock=some b->b<base)(h:iK base A sh u x)(k:Gr v x y):iK base A sh u y:=by
 obtain⟨b,h1,h2,h3⟩:=h;have hb:=k.block b h3.1 (λe=>by have:=hv b e.symm; omega);exact⟨b,h1,h2,ā h3.1 k.size,λi=>(World.cell?_of_block (a:=⟨b,i,none⟩) hb).trans (h3.2.1 i),λi=>(World.frozen?_of_block (a:=⟨b,i,none⟩) hb).trans (h3.2.2 i)⟩
abbrev iK.le{base b0:Nat}{A:List À}{sh:Option Nat}{u:À}{x:Á}(h:iK base A sh u x)(hb:b0<=base):iK b0 A sh u x:=by
 obtain⟨b,h1,h2,h3⟩:=h;exact⟨b,h1,ï hb h2,h3⟩
abbrev Rw.gr{x y:Á}{v:À}{B:List UInt8}(R:Rw w0 x bl [bR v B])(hc:Gr v x y)(hu:y.ownsRow w0.heap.size 5 1 v B.length (B.map iO)):Rw w0 y bl [bR v B]:=
 ⟨λr hr=>by obtain rfl:=Ā.1 hr; exact hu,λb hb=>ā (R.lt b hb) hc.size,R.apart⟩
abbrev akY(S:St w0 a w n l bl vs){v:À}{B:List UInt8}(R:Rw w0 w bl [bR v B]){id:Nat}(m k dk j dj:Nat)(Ts:List Fact)(ê:List UInt8)(T:Fact)(hm:qj.kS k Ext (Gr v) 0 Ts)
  (hob:qj.qL prog os.toArray (os.take m) Ts (qj.But k Ext (Gr v)) (G9 k (Gr v w) λw'=>w'.ownsRow w0.heap.size 5 1 v B.length (B.map iO)) a.eval 0 (os.take m) Ts)
  (next:∀a' w' v' y,Gr v w w'->Rw w0 w' bl [bR v' (B++ê)]->T y w'->St w0 a' w' n ((dk,v')::(dj,y)::l.filter λp=>(os.take m).all λo => !(o.dst==some p.1)) bl []->wpList prog os.toArray Q (os.drop m) a' w')
  (hk:Ts[k]?=some (λv' w1=>Rw w0 w1 bl [bR v' (B++ê)])) (hj:Ts[j]?=some T)
  (hd:(((os[k]?).bind (·.dst)==some dk)&&((os[j]?).bind (·.dst)==some dj)&&decide (k<m)&&decide (j<m))=true:=by kernel_rfl)
  (hmo:prog.follows .mixedOrders=true:=by kernel_rfl) (hB:okB os.toArray m n=true:=by kernel_rfl):(Code.region id os.toArray true).wp prog Q a w:=by
 simp only[æ,Û,Ý]at hd;obtain⟨⟨⟨hdk,hdj⟩,hkm⟩,hjm⟩:=hd;obtain⟨hlen,hget⟩:=qj.kQ _ _ 0 hob;have hU0:({ w with drawn:=w.drawn+1 }:Á).ownsRow w0.heap.size 5 1 v B.length (B.map iO):=kY (R.own _ ë) λg _=>rfl;refine š hmo (Hg m (by rw[S.s.size]; exact hB) (qj.But k Ext (Gr v)) (Gr v w) [] k (λw'=>w'.ownsRow w0.heap.size 5 1 v B.length (B.map iO)) Ts BJ ⟨I,I,I,Ó _,λ_ _ _=>rfl⟩ hU0
  (λi x y h hR=>?_) (λi x y hi h hR=>?_) hm.mem (λi o hi ho=>?_) λa' w' hc hdf hs hf ho _=>?_)
 .unfold qj.But at hR;split at hR
  .exact h.trans hR
  exact h.trans (Gr.ext hR)
 .rw[qj.U5 hi]at hR;exact dO h hR
 .have:=hget i o (by rw[List.getElem?_take_of_lt hi]; exact ho);rw[Ĳ]at this; exact this
 have get:∀{i d:Nat} {F:Fact},i<m->(os[i]?).bind (·.dst)=some d->Ts[i]?=some F->F (a'.eval (.tmp d)) w':=λ{i d F} hi hd hF=>by
  cases h:os[i]? with
  | none=>rw[h]at hd; cases hd
  | some o =>
   rw[h,Ο]at hd;have h1:=hf i o (by rw[List.getElem?_take_of_lt hi]; exact h);rw[show Ts.getD i top=F by simp[List.getD,hF],hd]at h1;exact h1
 have hR:=get hkm hdk hk;have hT:=get hjm hdj hj;have hS:=S.grown R ë hc;refine next a' w' _ _ hc hR hT (hS.act ⟨hs.trans S.s.size,hdf.trans S.s.defers,λi u hi=>?_⟩);rw[ġ]at hi;split at hi
 .rename_i h2;obtain rfl:i=dk:=by simpa using h2
  exact Ü hi
 rw[ġ]at hi;split at hi
 .rename_i h2;obtain rfl:i=dj:=by simpa using h2
  exact Ü hi
 obtain⟨hq,hi⟩:=pO (q:=λx=>(os.take m).all λo => !(o.dst==some x)) hi;have h5:=S.s.has i u hi;have h6:=ho i λj o hjm hoj hdo=>by
  have:=ø.1 hq o (List.mem_of_getElem? (i:=j) (by rw[List.getElem?_take_of_lt hjm]; simpa using hoj));simp[hdo]at this
 rw[<-h5];simp only[Act.eval,Array.getD_eq_getD_getElem?,h6]
abbrev dap{o:Ì}{ρ:Operand->À}{x:Á}{v:À}{B ê:List UInt8}{s y:Nat}(S:St w0 a w n l bl vs)(R:Rw w0 w bl [bR v B])(hc:Gr v w x)(hu:x.ownsRow w0.heap.size 5 1 v B.length (B.map iO))
  (hs:ρ (.tmp s)=v) (hy:dN x 1 (ρ (.tmp y)) ê.length (ê.map iO)) (hb:(B++ê).length<=100000000000) (ho:o.op = .call { callee := .builtin .append,args := #[.tmp s,.tmp y],argTypes := #[53,53] }:=by rfl) (hd:o.dst.isSome=true:=by rfl) :
  Does prog o ρ x (λu x'=>Gr v x x'∧Rw w0 x' bl [bR (kept o u) (B++ê)]):=by
 rw[ì]at hb;have R1:=R.gr hc hu;have hle:w0.heap.size<=x.heap.size:=ï S.E.size hc.size;obtain⟨v',x',hrun,h2,h3,h4⟩:=NR (P:=prog) ho DU hu hs hy I (by show B.length+ê.length<=9223372036854775807; omega) (by show(B.length+ê.length)*1<=140737488355328; omega) hle;obtain⟨R',-⟩:=R1.set (j:=0) (r':=⟨5,1,v',B.length+ê.length,B.map iO++ê.map iO⟩) I h3 h2 h4;have e:(⟨5,1,v',B.length+ê.length,B.map iO++ê.map iO⟩:Row)=bR v' (B++ê):=by simp[bR]
 have R':Rw w0 x' bl [(⟨5,1,v',B.length+ê.length,B.map iO++ê.map iO⟩:Row)]:=R';rw[e]at R';unfold Does;rw[hrun];exact⟨h3,by obtain⟨d,hd⟩:=į.1 hd; unfold kept; rw[hd]; exact R'⟩
end
end Go.Sx
end
namespace Go.Proofs.Pv
section
open Go.RowKit Go.Sx
variable{α:Type}{K:Nat}
variable{base:Nat}{v:À}
abbrev akZ{m:Nat}{A:List À}{w:Á}(h:Sx.iK base A (some m) v w)(hA:A.length=m)(hm:m<=maxLen:=by decide)(h1:A.all (·.oneCell')=true:=by kernel_rfl):dN w 1 v m A:=by
 obtain⟨b,rfl,-,hx⟩:=h;exact xH hx Z hm h1
abbrev Jo{w:Á}{B C:List UInt8}(h:OwnB base w v B)(e:B=C):OwnB base w v C:=e▸h
abbrev Zb{β:Type}{f:β->List UInt8}{g:α->β}{l:List α}:qB f (l.map g)=qB (λx=>f (g x)) l:=by simp[qB,List.flatMap_map]
abbrev ak0{pk:Bool}{n:ah}:ji pk n.key=iM [n.id,n.kind,n.depth]++Bg n.t.q++qB FZ n.clip++iM [n.aJ]++CU pk n.key:=rfl
end
section
open En
variable{α β:Type}{K:Nat}
abbrev Dc{m n:List UInt8}(h:gI.app m=gI.app n):m=n:=by
 have hl:m.length=n.length:=by have:=Ñ List.length h; rw[oG,oG]at this; omega
 unfold gI.app at h;exact(List.append_inj h hl).1
abbrev Jp(s:aV):eP s=[71,83,49]++(iB s.w++(iB s.h++(Px.pb s.bg++qB (ji false) s.ns))):=by
 unfold eP; simp only[uz,ĭ]; rfl
abbrev GH{w:Á}{n:ah}(h:n.ok w)(f1:n.t.fit 5000)(f2:∀p∈n.fill,p.t.fit 5000)(f3:∀p∈n.stroke,p.t.fit 5000):dY 5000 w n:=⟨h,f1,f2,f3,by decide,by decide⟩
section
variable{l:List UInt8}{p1 p2 p3 p4 p5 k:Nat}{b1 b2 b3 b4 b5:Bool}{x y:Int}{q:bQ}{ý:List aN}
end
end
section
open Go.RowKit Go.Sx
variable{α:Type}{K:Nat}
variable{b en ec sc:Nat}{sv:À}{ea sa:Option Addr}{ss:List aA}
abbrev anB{base:Nat}{v:À}{l:List ah}{w w':Á}(h:gB base v l w)(hc:Ch b w w')(hb:b<base):gB base v l w':=λw2 hs hk =>
 h w2 (ï hc.size hs) λi hi hB=>(hk i (ā hi hc.size) hB).trans (hc.block i hi (λe=>by simp only[Ò]at e; omega))
abbrev qH{w:Á}{ev:À}{k:Int}{m:Bool}(hx:Bx w b #[sv,ev,.i k,.b m]) :
  Ä prog 27 #[.q b 0] w λe w'=>e = .R (.b (!m))∧w=w':=by
 skip;refine Ë func27 ntmps27 (λS=>?_);have S:=S.view0 hx.1 (hx.range 0 4 I);refine Å S 11 [6,7,8,9,10] [.M 0 3] λS=>Æ S (.b (!m)) (λS=>?_);exact⟨I,I⟩
abbrev hpred{k:Nat}(h:0<k)(h2:k<=9223372036854775807):Value.i (IntKind.i64.wrap ((k:Int)-1)) = .i (k-1:Nat):=by
 have:IntKind.i64.wrap ((k:Int)-1)=((k-1:Nat):Int):=by rw[Ř]; omega
 rw[this]
abbrev Ej{w0 w:Á}{ev:À}{k:Nat}(hE:Ext w0 w)(hx:Bx w b #[sv,ev,.i k,.b true])(hb:w0.heap.size<=b)(hk:k<=1000000) :
  Ä prog 14 #[.q b 0] w λe w'=>(k=0∧e = .R (.i 20)∧Ext w0 w'∧Ch b w w'∧Bx w' b #[sv,ev,.i k,.b true])∨∃k',k=k'+1∧e = .R (.i 0)∧Ext w0 w'∧Ch b w w'∧Bx w' b #[sv,ev,.i k',.b true]:=by
 skip;refine YP func14 ntmps14 hE hx hb λS=>jc S (qH (S.bx 0)) λS=>ú S λS=>Å S 6 [] [.M 0 2] λS=>È S (((k:Int))==0) (λhc6 S=>?_) (λhc6 S=>?_)
 .refine Æ S (.i 20) (λS=>?_);have hk:k=0:=by simpa using hc6
  exact .inl ⟨hk,I,S.E,Ch.refl _ _,S.pV 0⟩
 have hk:0<k:=by have:=hc6; simp at this; omega
 refine Å S 9 [] [.M 0 2,.re 16 (.i (IntKind.i64.wrap ((k:Int)-1))) (.i (k-1:Nat))] (hk:=⟨hpred Z Z,G⟩) λS=>č S 0 I λu C9 S=>Æ S (.i 0) (λS=>?_);exact .inr ⟨k-1,Z,I,S.E,C9,S.pV 0⟩
abbrev MS{w0 w:Á}{k:Nat}(hE:Ext w0 w)(hx:Bx w b #[sv,.s ea en ec,.i k,.b true])(hb:w0.heap.size<=b)(hk:k<=1000000) :
  Ä prog 15 #[.q b 0] w λe w'=>(k=en∧e = .R (.i 20)∧Ext w0 w'∧Ch b w w'∧Bx w' b #[sv,.s ea en ec,.i k,.b true])∨(k≠en∧e = .R (.i 0)∧Ext w0 w'∧Ch b w w'∧Bx w' b #[sv,.s ea en ec,.i (k+1:Nat),.b true]):=by
 skip;refine YP func15 ntmps15 hE hx hb λS=>jc S (qH (S.bx 0)) λS=>ú S λS=>Ą S 12 [.M 0 2,.M 0 1] [] [(16,.b (((k:Int))==(en:Int)))] trivial λu E6 S=>È S (((k:Int))==(en:Int)) (λkP S=>?_) (λkP S=>?_)
 .refine Æ S (.i 20) (λS=>?_);have hk:k=en:=by have:=kP; simp at this; omega
  exact .inl ⟨hk,I,S.E,Ch.bY E6,S.pV 0⟩
 refine Å S 9 [] [.M 0 2,.re 22 (.i (IntKind.i64.wrap ((k:Int)+1))) (.i (k+1:Nat))] (hk:=⟨ą Z,G⟩) λS=>č S 0 I λu C9 S=>Æ S (.i 0) (λS=>?_);have hk:k≠en:=by have:=kP; simp at this; omega
 exact .inr ⟨hk,I,S.E,Ch.trans (Ch.bY E6) C9,S.pV 0⟩
abbrev aeF{w:Á}{k:Nat}(hx:Bx w b #[sv,.s ea en ec,.i k,.b true]) :
  Ä prog 9 #[.q b 0] w (RF w (.tuple #[.i k,.i en])):=by
 skip;refine Ë func9 ntmps9 (λS=>?_);have S:=S.view0 hx.1 (hx.range 0 4 I);refine jc S (qH hx) λS=>ú S λS=>Ą S 12 [.M 0 2,.M 0 1] [] [(2,.i k),(16,.i en)] trivial λu E5 S=>Gt S (.i k) (.i en) (λS=>?_);exact⟨I,S.E⟩
abbrev Ti{w:Á}{ev:À}{k:Nat}{r:List À}{x:aA}(hx:Bx w b (.s sa ss.length sc::ev :: .i k::r).toArray)(h:aI 7 aA.cells w (.s sa ss.length sc) ss)(hk:k<ss.length)(hxk:ss[k]=x) :
  Ä prog 38 #[.q b 0] w (RF w x.v):=by
 skip;refine Ë func38 ntmps38 (λS=>?_);have S:=S.view0 hx.1 (hx.range 0 3 I);refine Í S (λu b2 E3 hb4 S=>?_);have anC:k<ss.length:=hk;obtain⟨b7,o8,rfl,x13,aqo,Tj,ak1⟩:=û h (λ_=>I) (k) anC;have S:=S.view0 Tj ak1;refine Ą S 10 [.M 2 0,.M 2 2,.idx k ss.length,.M 1 0] [] [(12,x13.v)] trivial (hk:=⟨anC,G⟩) λu E6 S=>à S 0 I λu C15 S=>ă S 0 I (v:=x13.v) (λS=>?_);exact⟨by rw[<-hxk,aqo],S.E⟩
abbrev WZ{w:Á}{ev:À}{k:Nat}(hx:Bx w b #[.s sa ss.length sc,ev,.i k,.b true])(h:aI 7 aA.cells w (.s sa ss.length sc) ss)(hk:k<ss.length)(hok:bM K w ss[k])(hl:∀n∈(ss[k]).ns,n.lim)(hn:(ss[k]).ns.length<=100000) :
  Ä prog 17 #[.q b 0] w λe w'=>∃m:aA,e = .R m.v∧gB w.heap.size m.s m.ns w'∧m.ns.map ah.strip=(ss[k]).ns.map ah.strip∧m.w=(ss[k]).w∧m.h=(ss[k]).h∧m.bg=(ss[k]).bg∧Ext w w':=by
 skip;refine Ë func17 ntmps17 (λS=>?_);have S:=S.view0 hx.1 (hx.range 0 4 I);refine Í S λu b2 E3 hb4 S=>jc S (qH (hx.ext S.E)) λS=>ú S λS=>Þ S (Ti (hx.ext S.E) (h.below S.E) hk I) (λu E8 S=>?_);have hlt:=(S.bx 0).1;have hsz:=S.E.size;refine î S (rW (hok.below S.E) hl hn) ?_;rintro e u ⟨m,rfl,ho,hst,hw1,hh1,hb1,E9⟩;refine⟨_,I,E9,λS=>?_⟩;refine à S 0 I λu C10 S=>ă S 0 I (v:=m.v) (λS=>?_);exact⟨m,I,(anB ho.cp C10 hlt).le hsz,hst,hw1,hh1,hb1,S.E⟩
end
section
open Go.RowKit En Go.Sx
variable{α:Type}{K:Nat}
abbrev ahF(c d:bQ)(w:Á):(binOp .neq 40 (.agg c.cells.toArray) (.agg d.cells.toArray)).run prog w = .ok (.b (!decide (c=d))) w:=by
 rw[<-V4]; exact ai1 ..
def Df(e:bH):Bool:=(e.kind==1)||(e.kind==4)
def qZ(e:bH):Bool:=
 if e.kind=1 then ((((((e.id) != 0)||false)||((e.depth) != 0))||(!decide (e.color=⟨0,0,0,0⟩)))||(!(decide (fM.key=fM.key))))
 else if e.kind=4 then ((((((e.id) != 0)||((e.index) != 0))||((e.depth) != 0))||(!decide (e.color=⟨0,0,0,0⟩)))||(!(decide (fM.key=fM.key))))
 else if e.kind=3 then ((!decide (e.color=⟨0,0,0,0⟩))||(!(decide (e.node=fM.key))))
 else if e.kind=2 then (((((e.index) != 0)||((e.depth) != 0))||(!decide (e.color=⟨0,0,0,0⟩)))||(!(decide (e.node=fM.key))))
 else if e.kind=5 then ((((((e.id) != 0)||((e.index) != 0))||((e.depth) != 0))||(!decide ((⟨0,0,0,0⟩:bQ)=⟨0,0,0,0⟩)))||(!(decide (e.node=fM.key))))
 else true
structure aeG (e:bH):Prop where
 i:I64 e.kind∧I64 e.id∧I64 e.index∧I64 e.depth
 node:e.kind=1∨e.kind=4->e.node.Ok
 anD:¬(e.kind=1∨e.kind=4)->e.node=fM.key
 color:¬e.kind=5->e.color=⟨0,0,0,0⟩
def Pm(e:bH):List UInt8:=if e.kind=1∨e.kind=4 then ji false e.node else if e.kind=5 then Px.pb e.color else []
abbrev aeH(e:bH):Qy false e=iB e.kind++(iB e.id++(iB e.index++(iB e.depth++Pm e))):=by
 unfold Qy Pm; simp only[uz,ĭ]; rfl
section
variable{l:List UInt8}{p p1 p2 p3 p4 p5:Nat}{bad b1 b2 b3 b4 b5:Bool}{kd id ix dp:Int}{n:aN}{q:bQ}
def ajd(l:List UInt8)(p:Nat)(bad:Bool)(p4:Nat)(b4:Bool)(kd id ix dp:Int):Prop:=∀y r,aeG y->bad=false->l.drop p=Qy false y++r->kd=y.kind∧id=y.id∧ix=y.index∧dp=y.depth∧b4=false∧l.drop p4=Pm y++r
abbrev ahG(h1:Got iB I64 l p bad p1 b1 kd)(h2:Got iB I64 l p1 b1 p2 b2 id)(h3:Got iB I64 l p2 b2 p3 b3 ix)(h4:Got iB I64 l p3 b3 p4 b4 dp):ajd l p bad p4 b4 kd id ix dp:=λy r hy hb hh=>by
 rw[aeH]at hh;simp only[ĭ]at hh;obtain⟨i1,i2,i3,i4⟩:=hy.i;obtain⟨e1,k,hh⟩:=h1 _ _ i1 hb hh;obtain⟨e2,k,hh⟩:=h2 _ _ i2 k hh;obtain⟨e3,k,hh⟩:=h3 _ _ i3 k hh;obtain⟨e4,k,hh⟩:=h4 _ _ i4 k hh;exact⟨e1,e2,e3,e4,k,hh⟩
abbrev aa0(hC:ajd l p bad p4 b4 kd id ix dp)(hk:kd=5)(h5:Got Px.pb (λ_=>True) l p4 b4 p5 b5 q):Got (Qy false) aeG l p bad p5 b5 ⟨kd,id,ix,dp,fM.key,q⟩:=λy r hy hb hh=>by
 obtain⟨e1,e2,e3,e4,k,hh⟩:=hC y r hy hb hh;have hyk:y.kind=5:=e1▸hk;unfold Pm at hh;rw[É Z,Ï hyk]at hh;obtain⟨e5,k,hh⟩:=h5 _ _ G k hh;exact⟨by rw[e1,e2,e3,e4,e5,<-hy.anD Z],k,hh⟩
end
abbrev ahH:fM.fits:=by obtain⟨-,h1,h2,h3,-⟩:=lT (K:=5000) default O O; exact⟨h1,h2,h3,⟨.inl ⟨I,I,I,I⟩,.inl ⟨I,I,I,I⟩,.inl ⟨I,I,I,I⟩,.inl ⟨I,I,I,I⟩,.inl ⟨I,I,I,I⟩,.inl ⟨I,I,I,I⟩⟩⟩
end
section
open En
variable{K L:Nat}
abbrev aT.fit.up{k k':Nat}{t:aT}(h:t.fit k)(hk:k<=k'):t.fit k':=⟨h.1.mono hk,h.2.1.mono hk,h.2.2.1.mono hk,h.2.2.2.1.mono hk,h.2.2.2.2.1.mono hk,h.2.2.2.2.2.mono hk⟩
abbrev dY.up{w:Á}{n:ah}(h:dY K w n)(hk:K<=L)(hL:L<=10000):dY L w n:=⟨h.1,h.2.1.up hk,λp hp=>(h.2.2.1 p hp).up hk,λp hp=>(h.2.2.2.1 p hp).up hk,ï h.2.2.2.2.1 hk,hL⟩
abbrev bM.up{w:Á}{s:aA}(h:bM K w s)(hk:K<=L)(hL:L<=10000):bM L w s:=⟨h.1,h.2.1,h.2.2.1,λn hn=>(h.2.2.2 n hn).up hk hL⟩
end
section
open En
structure Hs (ss:List aV) (es:List bH):Prop where
 len:ss.length=es.length+1
 val:∀s∈ss,s.valid=true
 step:∀i e,es[i]?=some e->∃s t,ss[i]?=some s∧ss[i+1]?=some t∧fD s e=(t,0)
abbrev Hs.new{s:aV}(h:s.valid=true):Hs [s] []:=⟨I,λt ht=>by rw[Ā.1 ht]; exact h,λi e h=>by simp at h⟩
abbrev Hs.put{ss:List aV}{es:List bH}{k:Nat}{s t:aV}{e:bH}(h:Hs ss es)(hs:ss[k]?=some s)(ha:fD s e=(t,0)):Hs (ss.take (k+1)++[t]) (es.take k++[e]):=by
 obtain⟨hk,rfl⟩:=List.getElem?_eq_some_iff.1 hs;have hl:=h.len;have l1:(ss.take (k+1)).length=k+1:=by rw[Ľ]; omega
 have l2:(es.take k).length=k:=by rw[Ľ]; omega
 refine⟨by simp only[ì,l1,l2,azl],λx hx=>?_,λi x hx=>?_⟩
 .rcases đ.1 hx with hx | hx
  .exact h.val x (ţ hx)
  rw[Ā.1 hx];obtain⟨-,-,l,-,-,h5⟩:=Md ha;exact h5
 have hi:i<k+1:=by
  have:=(List.getElem?_eq_some_iff.1 hx).1;simp only[ì,l2,azl]at this;exact this
 rcases ĳ i k with h1 | h1
 .rw[List.getElem?_append_left Z,List.getElem?_take_of_lt h1]at hx;obtain⟨a,b,h2,h3,h4⟩:=h.step i x hx;exact⟨a,b,by rw[List.getElem?_append_left Z,List.getElem?_take_of_lt hi]; exact h2,by rw[List.getElem?_append_left Z,List.getElem?_take_of_lt Z]; exact h3,h4⟩
 obtain rfl:i=k:=by omega
 rw[List.getElem?_append_right Z,l2,Κ]at hx;simp only[List.getElem?_cons_zero,Ò]at hx;subst hx;exact⟨_,_,by rw[List.getElem?_append_left Z,List.getElem?_take_of_lt hi]; exact hs,by rw[List.getElem?_append_right Z,l1,Κ]; rfl,ha⟩
abbrev W9{s t:aV}{e:bH}(h:fD s e=(t,0)):qZ e=false∧(Df e=true->e.node.chk=0):=by
 obtain⟨h1,h2,l,h3,rfl,h5⟩:=Md h;have hc:=(Ou.1 (aV.oV.1 h5).2.2).1;replace hc:∀x∈l,x.chk=0:=hc;constructor
 .have hz:aN.zero=fM.key:=I;have hp:bQ.none=⟨0,0,0,0⟩:=I;unfold bH.named at h2;unfold qZ;repeat' split at h2
  all_goals simp_all
 intro hh;unfold Df at hh;simp only[ŷ,Û]at hh;unfold jy at h3;rcases hh with hh | hh
 .rw[Ï hh]at h3;split at h3
  .cases h3
  simp only[azc]at h3;exact hc _ (by rw[<-h3]; unfold FQ; simp)
 rw[É Z,É Z,É Z,Ï hh]at h3;cases hf:jD s.ns e.node.id with
 | none=>rw[hf]at h3; cases h3
 | some i =>
  rw[hf]at h3;simp only at h3;split at h3
  .cases h3
  simp only[azc]at h3;obtain⟨hi,-⟩:=vC hf;exact hc _ (by rw[<-h3]; exact List.mem_set hi ..)
abbrev Hs.enc{ss:List aV}{es:List bH}(h:Hs ss es){e:bH}(he:e∈es):qZ e=false∧(Df e=true->e.node.chk=0):=by
 obtain⟨i,hi,rfl⟩:=List.getElem_of_mem he;obtain⟨a,b,-,-,h3⟩:=h.step i _ (List.getElem?_eq_getElem hi);exact W9 h3
def eB(e:bH):List UInt8:=iy (gI.app (lW e))
def hB(s:aV)(k:Nat)(es:List bH):List UInt8:=iy (gI.app (eP s))++(fE 10 k++(fE 10 es.length++es.flatMap eB))
end
section
open Go.RowKit Go.Sx
variable{α:Type}{K:Nat}
def ak2(i j k:Int)(c:bQ)(n:ah):Bool:=((((i==0)&&(j==0))&&(k==0))&&decide (c=bQ.none))&&decide (n.key=aN.zero)
abbrev Dh(i j k:Int)(c:bQ)(n:ah):ak2 i j k c n=(i==0&&(j==0&&(k==0&&(n.key==aN.zero&&c==bQ.none)))):=by
 unfold ak2;rw[show(n.key==aN.zero)=decide (n.key=aN.zero)from rfl,show(c==bQ.none)=decide (c=bQ.none)from rfl];ac_rfl
abbrev Tm:(fM.key==aN.zero)=true:=by rw[show fM.key=aN.zero from rfl]; simp
abbrev aa1{w:Á}{e:aP}(he:jd K w e) :
  Ä prog 98 #[e.v] w (RF w (.b e.key.named)):=by
 skip;refine Ŗ func98 ntmps98 (λac S=>?_);have hK1:=he.2.2.2.2.2.2.2.2.1;have hK2:=he.2.2.2.2.2.2.2.2.2;refine Î λ_ ig=>ī S 1 e.cells λac u b2 E3 hb4 S=>Ç S 1 [] [(2,.z)] λS=>Ê<|ig _ _<|ß (λκq zy=>?_);have J6:∀(kd i j k:Int) (n:ah) (c:bQ) (ac:í) (u:Á),(ak2 i j k c n=e.key.named)->(dY K u n)->Sx.St w ac u 48 [(1,.q b2 0),(2,.z)] [(b2,(Sx.L [.i kd,.i i,.i j,.i k]++n.cells++c.cells))] []->κq ac u:=by
  intro kd i j k n c ac u ho hn S;refine zy _ _<|Î λ_ Qx=>ac0 S 26 [.M 0 1,.M 0 2,.M 0 3,.M 0 51,.cmp .eql 40 (.tmp 38) (.tmp 39) (.agg #[.u (c.r.toNat:Int),.u (c.g.toNat:Int),.u (c.b.toNat:Int),.u (c.a.toNat:Int)]) (.agg #[.u 0,.u 0,.u 0,.u 0]) (.b (c=bQ.none)),.M 0 4] [(_,_,(((((i)==0)&&((j)==0))&&((k)==0))&&(decide (c=bQ.none))),.b (n.key=aN.zero))] [(2,.b ((((((i)==0)&&((j)==0))&&((k)==0))&&(decide (c=bQ.none)))&&(decide (n.key=aN.zero))))] ⟨λu hC g=>YK (hn.below hC) (lT u hK1 hK2),G⟩ (hk:=⟨(ħ (λ_=>aj9 c bQ.none _) X),G⟩) λac u E8 S=>Ê<|Qx _ _<|Rk S results98 ?_;exact⟨aC (by rw[<-ho]; rfl),S.E⟩
 refine Î λ_ Ŭ=>Ç S 2 [.M 0 0] [(4,.i e.kind)] λS=>Ê<|Ŭ _ _<|Ĩ<|ß λ_ wX=>Ĩ<|ß λ_ KL=>Ĩ<|ß λ_ RQ=>Ĩ<|ß λ_ Oz=>Ĩ<|ß λ_ vZ=>Ĩ<|ß λ_ NT=>Ĩ<|ß λ_ D6=>ß λ_ NU=>Î λ_ VZ=>Ç S 2 [] [(5,.b ((e.kind)==1))] λS=>Ê (VZ _ _ ?_);refine Č S (λhc19=>?_) (λhc19=>?_)
 .refine Ņ<|NT _ _<|ń<|Ç S 1 [] [(15,.q b2 2)] λS=>ŝ S 0 (off:=2) (v := .i 0) I λu Ia S=>Ê<|vZ _ _<|Î λ_ ady=>Ç S 2 [] [(16,.agg (Sx.L [.i 0,.i 0,.i 0]++Sx.za++Sx.L [.sn,.i 0,.u 0,.i 0,.z,.z,.sn,.i 0,.sn,.i 0,.i 0,.i 0,.i 0,.sn,.i 0,.sn,.i 0,.i 0,.sn,.i 0]).toArray),(17,.q b2 4)] λS=>Ĭ S 0 (off:=4) (cs:=(Sx.L [.i 0,.i 0,.i 0]++Sx.za++Sx.L [.sn,.i 0,.u 0,.i 0,.z,.z,.sn,.i 0,.sn,.i 0,.i 0,.i 0,.i 0,.sn,.i 0,.sn,.i 0,.i 0,.sn,.i 0])) I λu C22 S=>Ê<|ady _ _<|Ņ ?_;exact J6 e.kind e.id 0 e.depth fM e.color _ _ (by have hk:=hc19; rw[Dh]; unfold bH.named; simp[aP.key,Tm,show e.kind=1 from by simpa using hk]) (lT u he.2.2.2.2.2.2.2.2.1 he.2.2.2.2.2.2.2.2.2) S.sn
 refine ÿ<|NU _ _<|ß λ_ adG=>Î λ_ VA=>Ç S 2 [] [(7,.b ((e.kind)==4))] λS=>Ê (VA _ _ ?_);refine Č S (λhc25=>?_) (λhc25=>?_)
 .refine Ņ<|vZ _ _<|Î λ_ aqp=>Ç S 2 [] [(16,.agg (Sx.L [.i 0,.i 0,.i 0]++Sx.za++Sx.L [.sn,.i 0,.u 0,.i 0,.z,.z,.sn,.i 0,.sn,.i 0,.i 0,.i 0,.i 0,.sn,.i 0,.sn,.i 0,.i 0,.sn,.i 0]).toArray),(17,.q b2 4)] λS=>Ĭ S 0 (off:=4) (cs:=(Sx.L [.i 0,.i 0,.i 0]++Sx.za++Sx.L [.sn,.i 0,.u 0,.i 0,.z,.z,.sn,.i 0,.sn,.i 0,.i 0,.i 0,.i 0,.sn,.i 0,.sn,.i 0,.i 0,.sn,.i 0])) I λu YL S=>Ê<|aqp _ _<|Ņ ?_;exact J6 e.kind e.id e.index e.depth fM e.color _ _ (by have hk:=hc25; rw[Dh]; unfold bH.named; simp[aP.key,Tm,show e.kind=4 from by simpa using hk]) (lT u he.2.2.2.2.2.2.2.2.1 he.2.2.2.2.2.2.2.2.2) S.sn
 refine ÿ<|adG _ _<|ß λ_ acY=>Î λ_ aqr=>Ç S 2 [] [(9,.b ((e.kind)==3))] λS=>Ê (aqr _ _ ?_);refine Č S (λvg=>?_) (λvg=>?_)
 .refine Ņ<|Oz _ _<|ń<|Ç S 1 [] [(18,.q b2 2)] λS=>ŝ S 0 (off:=2) (v := .i 0) I λu C31 S=>Ç S 1 [] [(19,.q b2 3)] λS=>ŝ S 0 (off:=3) (v := .i 0) I λu C32 S=>Ê<|RQ _ _<|Î λ_ adH=>Ç S 1 [] [(20,.q b2 1)] λS=>ŝ S 0 (off:=1) (v := .i 0) I λu C34 S=>Ê<|adH _ _<|Ņ ?_;exact J6 e.kind 0 0 0 e.node e.color _ _ (by have hk:=vg; rw[Dh]; unfold bH.named; simp[aP.key,show e.kind=3 from by simpa using hk]) (he.2.2.2.2.below S.E) S.sn
 refine ÿ<|acY _ _<|ß λ_ OA=>Î λ_ aqs=>Ç S 2 [] [(11,.b ((e.kind)==2))] λS=>Ê (aqs _ _ ?_);refine Č S (λqV=>?_) (λqV=>?_)
 .refine Ņ<|RQ _ _<|Î λ_ Vs=>Ç S 1 [] [(20,.q b2 1)] λS=>ŝ S 0 (off:=1) (v := .i 0) I λu C39 S=>Ê<|Vs _ _<|Ņ ?_;exact J6 e.kind 0 e.index e.depth e.node e.color _ _ (by have hk:=qV; rw[Dh]; unfold bH.named; simp[aP.key,show e.kind=2 from by simpa using hk]) (he.2.2.2.2.below S.E) S.sn
 refine ÿ<|OA _ _<|Î λ_ aj6=>Ç S 2 [] [(13,.b ((e.kind)==5))] λS=>Ê (aj6 _ _ ?_);refine Č S (λKE=>?_) (λKE=>?_)
 .refine Ņ<|KL _ _<|Î λ_ Vt=>Ç S 2 [] [(21,.agg #[.u 0,.u 0,.u 0,.u 0]),(22,.q b2 51)] λS=>Ĭ S 0 (off:=51) (cs:=[.u 0,.u 0,.u 0,.u 0]) I λu C43 S=>Ê<|Vt _ _<|Ņ ?_;exact J6 e.kind e.id e.index e.depth e.node bQ.none _ _ (by have hk:=KE; rw[Dh]; unfold bH.named; simp[aP.key,show e.kind=5 from by simpa using hk]) (he.2.2.2.2.below S.E) S.sn
 refine ÿ<|D6 _ _<|Ņ<|wX _ _<|ß λ_ aas=>Î λ_ adA=>Ç S 1 [] [(2,.z)] λS=>Ê<|adA _ _<|Rk S results98 ?_;exact⟨aC (by unfold bH.named; rw[É (show ¬(e.key.kind=1)from by simpa[aP.key]using hc19)]; rw[É (show ¬(e.key.kind=2)from by simpa[aP.key]using qV)]; rw[É (show ¬(e.key.kind=3)from by simpa[aP.key]using vg)]; rw[É (show ¬(e.key.kind=4)from by simpa[aP.key]using hc25)]; rw[É (show ¬(e.key.kind=5)from by simpa[aP.key]using KE)]),S.E⟩
