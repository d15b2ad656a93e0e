/- A region that draws its order, where a pure operation -/
import Derived.Test.YtapmgonflgahbaaGreatDoorDeP1
import Derived.Test.YtapmgonflgahbaaGreatDoorRat10
set_option linter.unusedVariables false
section
namespace Go.Sx
open Go.Proofs.YtapmgonflgahbaaGreatDoor Go.RowKit Go.Rel
theorem Qv{P:Program}{ops ops':Array Oper}{Q:Exit→Act→World→Prop}{p q:Nat}{o:Oper}(ho':ops'[p]?=some o)
  (hK:∀(K:Act→World→Prop) a w,wpOp P ops (YM Q) p K a w→∃v,Yields P ops' o v a∧K (a.put o.dst v) w) (hs:Region.noSelect ops'=true) (hpq:p≠q)
  (hap:∀j oj,ops'[j]?=some oj→j≠p→j≠q→(∀e∈oj.after,Region.binds .any e=true→e.on≠p)→o.apart ops' oj=true)
  (hop:∀i K a w,wpOp P ops (YM Q) i K a w→wpOp P ops' (YM Q) i K a w)
  (hA:∀f (L:Array Bool) a w,L.getD p false=true→wpAny P .any ops (YM Q) f L a w→wpAny P .any ops' (YM Q) f L a w)
  (hR:∀L:Array Bool,L.getD q true=false→Region.ready .any ops L=Region.ready .any ops' L∧p∉Region.ready .any ops' L)
  (hP:∀L:Array Bool,L.getD q false=true→L.getD p true=false→p∈Region.ready .any ops L∧p∈Region.ready .any ops' L) :
  ∀(f:Nat) (L:Array Bool) (a:Act) (w:World),L.getD q true=false→L.getD p true=false→wpAny P .any ops (YM Q) f L a w→wpAny P .any ops' (YM Q) f L a w
 | 0,L,a,w,hq,hp,h=>⟨(hR L hq).1▸h.1,h.2⟩
 | f+1,L,a,w,hq,hp,h=>by
  refine⟨fun h0=>h.1 ((hR L hq).1.trans h0),fun i hi=>?_⟩
  have h2:=hop i _ a w (h.2 i ((hR L hq).1▸hi))
  have hip:i≠p:=fun e=>(hR L hq).2 (e▸hi)
  have hne:∀(j:Nat),j≠i→∀d,(L.setIfInBounds i true).getD j d=L.getD j d:=fun j hj d=>by
   simp[Array.getD_eq_getD_getElem?,Array.getElem?_setIfInBounds_ne (Ne.symm hj)]
  by_cases hiq:i=q
  ·subst hiq
   refine wpOp_mono (fun a' w' h'=>?_) h2
   have hlt:i<L.size:=by
    by_cases h:i<L.size
    ·exact h
    ·rw[Array.getD_eq_getD_getElem?,Array.getElem?_eq_none (by omega)]at hq; cases hq
   have hq':(L.setIfInBounds i true).getD i false=true:=by simp[Array.getD_eq_getD_getElem?,hlt]
   have hp':(L.setIfInBounds i true).getD p true=false:=by rw[hne p (Ne.symm hip)]; exact hp
   obtain⟨r1,r2⟩:=hP _ hq' hp'
   cases f with
   | zero=>rw[h'.1]at r1; cases r1
   | succ g =>
    obtain⟨v,hy,h3⟩:=hK _ a' w' (h'.2 p r1)
    have hltp:p<L.size:=by
     by_cases h:p<L.size
     ·exact h
     ·rw[Array.getD_eq_getD_getElem?,Array.getElem?_eq_none (by omega)]at hp; cases hp
    refine wpAny_first ho' (Region.noSelect_spec hs) (fun c a w h=>h.elim) g _ a' w' (fun j oj hj hjp hun hno=>hap j oj hj hjp (fun e=>?_) hno) r2 hy (hA _ _ _ _ (by simp[Array.getD_eq_getD_getElem?,hltp]) h3)
    subst e
    simp[Array.getD_eq_getD_getElem?,hlt]at hun
  ·refine wpOp_mono (fun a' w' h'=>Qv ho' hK hs hpq hap hop hA hR hP f _ a' w' ?_ ?_ h') h2
   ·rw[hne q (Ne.symm hiq)]; exact hq
   ·rw[hne p (Ne.symm hip)]; exact hp
def MQ(p q t:Nat)(os:List Oper):Bool:=Region.noSelect os.toArray&&p != q&&p != t&&decide (q<os.length)&&(tX os.toArray p==[q])&&(tX os.toArray t).contains q &&
 (match os[p]? with | some o=>o.guard.isNone&&(match o.op with | .extract _ _=>true | _=>false)&&(List.range os.length).all (fun j=>j==p||j==q||(tX os.toArray j).contains p||(match os[j]? with | some oj=>o.apart os.toArray oj | none=>true)) | none=>false)
theorem uO{p t:Nat}{os:List Oper}{j q:Nat}:q∈tX (rP [p] t os).toArray j↔q∈tX os.toArray j∨(j=t∧q=p∧j<os.length):=by
 unfold tX;rw[List.getElem?_toArray,List.getElem?_toArray,G6];by_cases h:j=t
 ·subst h;rw[awl rfl];cases ho:os[j]? with
  | none=>have:=List.getElem?_eq_none_iff.1 ho; simp; omega
  | some o =>
   have hl:=(List.getElem?_eq_some_iff.1 ho).1;simp only[aw5,Array.toList_append,List.filterMap_append,axd,axb,axC];refine or_congr Iff.rfl ?_;simp[Region.binds,hl,eq_comm]
 rw[awj h]; simp[h]
theorem afr{L:Array Bool}{q:Nat}(h:L.getD q true=false):L.getD q false=false:=by
 by_cases hl:q<L.size
 ·rw[←acn hl true false]; exact h
 rw[Array.getD_eq_getD_getElem?,Array.getElem?_eq_none (by omega)]at h; cases h
theorem Zf{ops ops':Array Oper}{L:Array Bool}(hsz:ops.size=ops'.size)(h:∀j,j∈Region.ready .any ops L↔j∈Region.ready .any ops' L):Region.ready .any ops L=Region.ready .any ops' L:=by
 unfold Region.ready at *;rw[hsz]at *;refine List.filter_congr fun x hx=>?_;have:=h x;simp only[List.mem_filter,hx,true_and]at this;exact axA.2 this
theorem Qw{P:Program}{tt:Value}{ix:Nat}:(∃v,∀w,(Instr.extract tt ix).run P w = .ok v w)∨∀w,∃x,(Instr.extract tt ix).run P w = .halt x w:=by
 unfold Instr.extract;split
 ·split
  ·exact .inl ⟨_,fun w=>rfl⟩
  exact .inr fun w=>⟨_,rfl⟩
 exact .inr fun w=>⟨_,rfl⟩
theorem ac1{P:Program}{Q:Exit→Act→World→Prop}{a:Act}{w:World}{os:List Oper}(p q t:Nat)(h:wpAny P .any (rP [p] t os).toArray (YM Q) os.length (Array.replicate os.length false) a w)
  (hb:MQ p q t os=true:=by kernel_rfl):wpAny P .any os.toArray (YM Q) os.length (Array.replicate os.length false) a w:=by
 unfold MQ at hb;simp only[awC,bne_iff_ne,ne_eq,awL,awE]at hb;obtain⟨⟨⟨⟨⟨⟨hs,hpq⟩,hpt⟩,hql⟩,hbp⟩,hbt⟩,hm⟩:=hb;have hbt:q∈tX os.toArray t:=by simpa using hbt
 split at hm
 ·rename_i o ho;simp only[awC,awQ,List.mem_range,ayc,awE]at hm;obtain⟨⟨hg,hx⟩,hap⟩:=hm;have hg:o.guard=none:=by simpa using hg
  obtain⟨tt,ix,hop⟩:∃tt ix,o.op = .extract tt ix:=by split at hx; exact⟨_,_,by assumption⟩; cases hx
  have hpl:=(List.getElem?_eq_some_iff.1 ho).1;have ho':os.toArray[p]?=some o:=by simpa using ho
  have hop2:(rP [p] t os).toArray[p]?=some o:=by rw[List.getElem?_toArray,G6,awj hpt]; exact ho
  have hal:=Uw [p] t os;have hsz:(rP [p] t os).toArray.size=os.toArray.size:=hal.1;have hrep:∀j,j<os.length→∀d,(Array.replicate os.length false).getD j d=false:=fun j hj d=>by simp[Array.getD_eq_getD_getElem?,hj]
  have key:=Qv (P:=P) (Q:=Q) (ops:=(rP [p] t os).toArray) (ops':=os.toArray) (p:=p) (q:=q) ho' (fun K a w h=>?_) hs hpq (fun j oj hj h1 h2 h3=>?_) (fun i K a w h=>hal.wpOp (fun _ _ h=>h) h) (fun f L a w hL h=>?_) (fun L hL=>?_) (fun L hL hL2=>?_) os.length (Array.replicate os.length false) a w (hrep q hql _) (hrep p hpl _) h
  ·simpa using key
  ·unfold wpOp at h;rw[hop2]at h;simp only at h;rw[awl (by simp[Region.wanted,hg])]at h;rcases h with h | ⟨_,h⟩
   ·have he:∀w,(execOp a.eval o).run P w=match (Instr.extract (a.eval tt) ix).run P w with | .ok v w => .ok (.value v) w | .halt x w => .halt x w:=fun w=>by unfold execOp; simp only[hop]; generalize Instr.extract (a.eval tt) ix=m; simp[go_sem]; cases Sem.run P m w<;>rfl
    rcases Qw (P:=P) (tt:=a.eval tt) (ix:=ix)with ⟨v,hv⟩ | hb
    ·have hrun:∀w,(execOp a.eval o).run P w = .ok (.value v) w:=fun w=>by rw[he,hv]
     exact⟨v,.inl ⟨by simp[Region.wanted,hg],hrun⟩,by unfold Oper.wp at h; rw[hrun w]at h; exact h⟩
    obtain⟨x,hx⟩:=hb w;unfold Oper.wp at h;rw[he,hx]at h;cases x<;>simp only[Oper.upon]at h;exact h.elim
   exact(G5 h).elim
  ·have hj':os[j]?=some oj:=by simpa using hj
   have:=hap j (List.getElem?_eq_some_iff.1 hj').1;rw[hj']at this;rcases this with ((h4 | h4) | h4) | h4
   ·exact absurd h4 h1
   ·exact absurd h4 h2
   ·obtain⟨e,he,hbe,h5⟩:=(mY hj).1 (by simpa using h4);exact absurd h5 (h3 e he hbe)
   exact h4
  ·refine P5 (F:=[p]) hal (fun i o1 o2 h1 h2 e he hbe=>?_) (fun i o1 o2 h1 h2 e he hbe=>?_) f L a w (fun i hi=>by rw[axl.1 hi]; exact hL) h
   ·rcases uO.1 ((mY h1).2 ⟨e,he,hbe,rfl⟩)with h3 | h3
    ·exact .inr ((mY h2).1 h3)
    exact .inl (by simp[h3.2.1])
   exact(mY h1).1 (uO.2 (.inl ((mY h2).2 ⟨e,he,hbe,rfl⟩)))
  ·have hq:=afr hL;have hnp:p∉Region.ready .any os.toArray L:=fun h=>by
    have:=(uI.1 h).2.2 q (by rw[hbp]; simp);rw[hq]at this; cases this
   refine⟨Zf hsz fun j=>?_,hnp⟩;rw[uI,uI,hsz];refine and_congr_right fun _=>and_congr_right fun _=>⟨fun g r hr=>g r (uO.2 (.inl hr)),fun g r hr=>?_⟩;rcases uO.1 hr with hr | ⟨rfl,-,-⟩
   ·exact g r hr
   have:=g q hbt;rw[hq]at this; cases this
  refine⟨uI.2 ⟨by rw[hsz]; simpa using hpl,hL2,fun r hr=>?_⟩,uI.2 ⟨by simpa using hpl,hL2,fun r hr=>?_⟩⟩
  ·rcases uO.1 hr with hr | ⟨h1,-,-⟩
   ·rw[hbp]at hr; rw[axl.1 hr]; exact hL
   exact absurd h1 hpt
  rw[hbp]at hr; rw[axl.1 hr]; exact hL
 cases hm
theorem ai0{P:Program}{Q:Exit→Act→World→Prop}{a:Act}{w:World}{os:List Oper}{id:Nat}(p p' q t:Nat)(h:wpAny P .any (rP [p'] t (rP [p] t os)).toArray (YM Q) (rP [p'] t (rP [p] t os)).toArray.size (Array.replicate (rP [p'] t (rP [p] t os)).toArray.size false) a { w with drawn:=w.drawn+1 })
  (hb:MQ p q t os=true:=by kernel_rfl) (hb':MQ p' q t (rP [p] t os)=true:=by kernel_rfl) (hmo:P.follows .mixedOrders=true:=by kernel_rfl):(Code.region id os.toArray true).wp P Q a w:=by
 have hl:(rP [p] t os).length=os.length:=by unfold rP; simp
 rw[show(rP [p'] t (rP [p] t os)).toArray.size=(rP [p] t os).length by unfold rP; simp]at h;have h2:=ac1 p' q t h hb';rw[hl]at h2;refine ayz hmo (JO _ _ _ _ ?_);have:=ac1 p q t h2 hb;simpa using this
end Go.Sx
end
section
set_option maxHeartbeats 3200000
set_option maxRecDepth 100000
namespace Go.Proofs.YtapmgonflgahbaaGreatDoor
open Go.RowKit En
variable{α:Type}{K:Nat}
theorem W9{f:α→Value}{base:Nat}{w:World}{v:Value}{l:List α}(h:dB f w v l)(hf:From base v):Sx.bI base (fun W=>dB f W v l) w:=fun w' hs hb=>by
 obtain⟨a,cap,rfl,hm,hh⟩:=h;refine⟨a,cap,rfl,hm,hh.imp id ?_⟩;rintro⟨b,o,rfl,h1,h2,h3⟩;have hk:=hb b h1 (hf _ _ _ rfl);exact⟨b,o,rfl,awR h1 hs,h2,fun i hi=>(World.cell?_of_block (a:=⟨b,o+i,none⟩) hk).trans (h3 i hi)⟩
theorem afs{base:Nat}{w:World}{x:Value}{neg:Bool}{a b:Nat}(h:aG base w x neg a b):∃t:bJ,x=t.v∧t.n1=neg∧t.n2=false∧t.l1=Na.ak a∧t.l2=Na.ak b∧t.ok w∧From base t.s1∧From base t.s2:=by
 obtain⟨s,t,rfl,h1,h2,f1,f2⟩:=h;obtain⟨a1,c1,rfl⟩:=h1.shape;obtain⟨a2,c2,rfl⟩:=h2.shape;exact⟨⟨neg,a1,c1,Na.ak a,false,a2,c2,Na.ak b⟩,rfl,rfl,rfl,rfl,rfl,⟨h1,h2⟩,f1,f2⟩
theorem xR{base b:Nat}{w u:World}{t:bJ}(h:t.ok w)(hf:From base t.s1∧From base t.s2)(c:Ch b w u)(hb:b<base):t.ok u:=⟨h.1.ch c (fun _=>hf.1.off hb),h.2.ch c (fun _=>hf.2.off hb)⟩
theorem ac2{w:World}{g:Nat}{s:Value}{l:List UInt32}(h:Bx w g #[.z,.sn,.z,.sn])(hs:aB w s l):0<l.length→Off g s:=by
 intro h0 ad n cap e;obtain⟨b,o,c,hv,hb,_,_,hc⟩:=cZ hs rfl h0;rw[hv]at e;simp only[aw1,awn]at e;obtain⟨rfl,-,-⟩:=e;intro hbg;simp only at hbg;subst hbg;have h1:=hc 0 h0;rw[h.2.1]at h1;rcases o with _ | _ | _ | _ | o
 ·simp at h1
 ·simp at h1
 ·simp at h1
 ·simp at h1
 simp at h1
theorem xU{b:Nat}{w u:World}{t:bJ}(h:t.ok w)(hx:Bx w b #[.z,.sn,.z,.sn])(c:Ch b w u):t.ok u:=⟨h.1.ch c (ac2 hx h.1),h.2.ch c (ac2 hx h.2)⟩
theorem Zg{base base':Nat}{w:World}{t:bJ}(h:t.ok w)(hf:From base t.s1∧From base t.s2)(hb:base'≤base):Sx.bI base' (fun W=>t.ok W) w:=axu (W9 h.1 (hf.1.mono hb)) (W9 h.2 (hf.2.mono hb))
def Bq(r:Q3)(t:bJ):Prop:=t.n1=r.1∧t.n2=false∧t.l1=Na.ak r.2.1∧t.l2=Na.ak r.2.2
def bJ.least(t:bJ):Prop:=(t.n1=false∧t.n2=false∧t.l1=[]∧t.l2=[])∨∃r:Q3,Bq r t∧Ed r.1 r.2.1 r.2.2=true
def bD.least(t:bD):Prop:=t.a.least∧t.b.least∧t.c.least∧t.d.least∧t.e.least∧t.f.least
theorem Bq.q{r:Q3}{t:bJ}(h:Bq r t)(hr:NP r):t.q=r:=by
 unfold bJ.q;rw[h.1,h.2.1,h.2.2.1,h.2.2.2,Na.aC,Na.aC,EG hr.2]
theorem Bq.fit{l:List UInt8}{i:Int}{r:Q3}{q e:Nat}{t:bJ}(h:Bq r t)(hu:Hy l i=(r,q,e)):t.fit 5000:=by
 have:=acX hu;exact⟨by rw[h.2.2.1]; omega,by rw[h.2.2.2]; omega⟩
theorem aft{l:List UInt8}{p nx er:Nat}{bad:Bool}{r:Q3}{t:bJ}(hu:Hy l (p:Int)=(r,nx,er))(h:Bq r t):Got gu NP l p bad nx false t.q:=fun y s hy hb e=>by
 have h2:=WY hy e;rw[hu]at h2;simp only[awo]at h2;obtain⟨rfl,rfl,rfl⟩:=h2;exact⟨h.q hy,rfl,Bo e⟩
theorem UY{l:List UInt8}{p nx er p':Nat}{bad b':Bool}{r:Q3}{x:Q3}(hu:Hy l (p:Int)=(r,nx,er))(h:bad=true∨er≠0):Got gu NP l p bad p' b' x:=fun y s hy hb e=>by
 have h2:=WY hy e;rw[hu]at h2;simp only[awo]at h2;exfalso;rcases h with h | h
 ·rw[h]at hb; cases hb
 exact h h2.2.2
theorem J6{w0 w:World}{b p cap:Nat}{a:Option Addr}{bad pk:Bool}{l:List UInt8}(hE:Ext w0 w)(hx:Bx w b #[.slice a l.length cap,.i p,.bool bad,.bool pk])(hb:w0.heap.size≤b)(h:iQ w0 (.slice a l.length cap) l)(hp:p≤l.length)(hll:l.length≤60000000) :
  Calls Tryz.prog 166 #[.q b 0] w fun e w'=>∃(t:bJ) (p':Nat) (d':Bool),e = .returned t.v∧t.fit 5000∧t.least∧Sx.bI w.heap.size (fun W=>t.ok W) w'∧Got gu NP l p bad p' d' t.q∧Iy w0 w w' b a l cap pk p' d':=by
 skip;refine axc Tryz.func166 Tryz.ntmps166 hE hx hb fun ac S=>avP fun _ aV=>avQ S 2 Sx.zr fun ac u b2 E3 hb4 S=>apB<|aV _ _<|awg (fun _ dA=>?_);obtain⟨rr,nx,er,hu⟩:∃rr nx er,Hy l (p:Int)=(rr,nx,er):=⟨_,_,_,rfl⟩;have hnx:er=0→nx≤l.length:=fun e=>by subst e; obtain⟨p',-,-,h2,-⟩:=J5 hu; exact h2
 have hyy:=(((Ch.trans (Ch.refl b w) (Ch.bf E3)))).size;have zr0:=(S.bx 0).1;have zr1:=(S.bx 1).1;have hold:=fun p hp=>(S.own p hp).1.1;have AU:=S.E.size;refine Sx.ai0 11 12 9 14 ?_;refine Sx.ac3 S 14 [(15,fun v w1=>∃t:bJ,v = .tuple #[t.v,.i nx,.i er]∧Bq rr t∧t.ok w1∧From u.heap.size t.s1∧From u.heap.size t.s2),(6,fun v w1=>∃t:bJ,v = .tuple #[t.v,.i nx,.i er]∧Bq rr t∧t.ok w1∧From u.heap.size t.s1∧From u.heap.size t.s2),(16,fun v w1=>∃t:bJ,v=t.v∧Bq rr t∧t.ok w1∧From u.heap.size t.s1∧From u.heap.size t.s2),(17,fun v w1=>v = .i nx),(18,fun v w1=>v = .i er),(3,Sx.iI u.heap.size Sx.zr none)] (fun r=>[.mem 1 0,.mem 1 1,.hand 6 [],.hand 16 [],.hand 17 [],.hand 18 [],.new 3 Sx.zr none r]) (fun x=>[x 15,x 6,x 16,x 17,x 18,x 3]) (fun x=>[(_,_,true,x 15,15)]) [[]] (fun x=>[(3,x 3),(16,x 16),(17,x 17),(18,x 18)]) ⟨fun _ _ _ k h=>by obtain⟨t,e,h1,h2⟩:=h; exact⟨t,e,h1,h2.1.below k,h2.2⟩,fun _ _ _ k h=>by obtain⟨t,e,h1,h2⟩:=h; exact⟨t,e,h1,h2.1.below k,h2.2⟩,fun _ _ _ k h=>by obtain⟨t,e,h1,h2⟩:=h; exact⟨t,e,h1,h2.1.below k,h2.2⟩,fun _ _ _ _ h=>h,fun _ _ _ _ h=>h,Sx.iI.mono,trivial⟩ (fun x=>⟨by intro u hC g F; exact(MR (.slice a l.length cap) l (p:Int) _ (fO (aO.below h (Ext.trans' S.E hC))) (by omega)).mono fun e w2 h=>by obtain⟨x,rfl,hx,hb⟩:=h; exact⟨_,rfl,(by rw[hu]at hx ⊢; obtain⟨t,rfl,h1,h2,h3,h4,h5,h6,h7⟩:=afs hx; exact⟨t,rfl,⟨h1,h2,h3,h4⟩,h5,h6.mono hC.size,h7.mono hC.size⟩),hb⟩,trivial⟩) (fun ac u x E6 F S=>?_) (hN:=fun r=>⟨⟨rfl,rfl⟩,trivial⟩) (hk:=fun r=>⟨trivial,trivial,trivial,trivial,trivial,trivial⟩) (hl:=[(9,[15]),(10,[6]),(11,[6]),(12,[6])]) (hH:=fun x r=>⟨fun o ho ρ u hs hE hρ hV F=>by obtain⟨F15,-⟩:=F; exact Sx.yC ho hs [(15,x 15)] (Sx.look1 (hρ 15 (by decide) rfl)) (x 15) (Sx.P8 ho rfl rfl Ext.rfl' F15),fun o ho ρ u hs hE hρ hV F=>by obtain⟨F6,-⟩:=F; obtain⟨t,e,h2⟩:=F6; exact Sx.yC ho hs [(6,.tuple #[t.v,.i nx,.i er])] (Sx.look1 ((hρ 6 (by decide) rfl).trans e)) (t.v) (Sx.P8 ho rfl rfl Ext.rfl' ⟨t,rfl,h2⟩),fun o ho ρ u hs hE hρ hV F=>by obtain⟨F6,-⟩:=F; obtain⟨t,e,h2⟩:=F6; exact Sx.yC ho hs [(6,.tuple #[t.v,.i nx,.i er])] (Sx.look1 ((hρ 6 (by decide) rfl).trans e)) (.i nx) (Sx.P8 ho rfl rfl Ext.rfl' rfl),fun o ho ρ u hs hE hρ hV F=>by obtain⟨F6,-⟩:=F; obtain⟨t,e,h2⟩:=F6; exact Sx.yC ho hs [(6,.tuple #[t.v,.i nx,.i er])] (Sx.look1 ((hρ 6 (by decide) rfl).trans e)) (.i er) (Sx.P8 ho rfl rfl Ext.rfl' rfl),trivial⟩);obtain⟨F15,F6,F16,F17,F18,F3,-⟩:=F;clear F15;clear F6;obtain⟨t,et,hto,htd,hfr⟩:=F16;rw[et]at S;rw[F17]at S;rw[F18]at S;obtain⟨b7,F3,hb9,X8⟩:=F3;rw[F3]at S;have S:=S.adopt (A:=Sx.zr) X8 (by omega) (fun p hp=>by have:=hold p hp; omega) (fun m hm=>by cases hm);refine avT S 0 (off:=0) (cs:=t.cells) rfl (fun u C10 S=>?_);have OU:=(aI ((Ch.trans (Ch.refl b w) (Ch.bf (Ext.trans' E3 E6)))) C10 (by first | exact .inl rfl | exact .inr (by omega)));have DY:=(by first | exact xU htd X8 C10 | exact xR htd hfr C10 (by omega));refine adr S 2 [] [(4,.i nx),(5,.i er)] fun S=>apB<|dA _ _<|awg fun _ gW=>avP fun _ gK=>adr S 8 [.mem 2 2] [(26,.bool (bad||(((er:Int)) != 0)))] fun S=>apB (gK _ _ ?_);refine avR S (fun tq=>?_) (fun tq=>?_)
 ·refine avP fun _ iR=>adr S 3 [] [(29,.q b 2)] fun S=>av1 S 2 (off:=2) (v := .bool true) rfl (fun u C17 S=>?_);have abj:=(aI OU C17 (by first | exact .inl rfl | exact .inr (by omega)));have sN:=(by first | exact xU DY X8 C17 | exact xR DY hfr C17 (by omega));refine apB<|iR _ _<|avP fun _ l9=>adr S 1 [] [(30,.agg Sx.zr.toArray)] fun S=>avT S 1 (off:=0) (cs:=Sx.zr) rfl (fun u C21 S=>?_);have yN:=(aI abj C21 (by first | exact .inl rfl | exact .inr (by omega)));have BL:=(by first | exact xU sN X8 C21 | exact xR sN hfr C21 (by omega));refine apB<|l9 _ _<|awd S 1 Tryz.results166 rfl (v := .agg Sx.zr.toArray) ?_;exact⟨.none,p,true,rfl,bJ.jh 5000,.inl ⟨rfl,rfl,rfl,rfl⟩,(fun W _ _=>bJ.iD W),UY hu (by cases bad; (right; intro e; rw[e]at tq; simp at tq); (left; rfl)),hp,S.E,yN,S.bx 2⟩
 refine awh<|gW _ _<|avP fun _ kU=>adr S 4 [] [(32,.i nx),(34,.q b 1)] fun S=>av1 S 2 (off:=1) (v := .i nx) rfl (fun u KN S=>?_);have Aj:=(aI OU KN (by first | exact .inl rfl | exact .inr (by omega)));have yK:=(by first | exact xU DY X8 KN | exact xR DY hfr KN (by omega));refine apB<|kU _ _<|avP fun _ qh=>adr S 1 [.mem 0 0] [(35,t.v)] fun S=>avT S 1 (off:=0) (cs:=t.cells) rfl (fun u C29 S=>?_);have TY:=(aI Aj C29 (by first | exact .inl rfl | exact .inr (by omega)));have Ag:=(by first | exact xU yK X8 C29 | exact xR yK hfr C29 (by omega));refine apB<|qh _ _<|awq ?_;have hq:bad=false∧er=0:=by cases bad<;>simp at tq ⊢ <;> omega
 obtain⟨rfl,rfl⟩:=hq;refine Sx.wR S 1 Tryz.results166 rfl (v:=t.v) ?_;exact⟨t,nx,false,rfl,hto.fit hu,.inr ⟨rr,hto,by obtain⟨_,-,-,-,hq,-⟩:=J5 hu; exact hq⟩,Zg Ag hfr hyy,aft hu hto,hnx rfl,S.E,TY,S.bx 2⟩
theorem afX{w0 w:World}{b p cap:Nat}{a:Option Addr}{bad pk:Bool}{l:List UInt8}(hE:Ext w0 w)(hx:Bx w b #[.slice a l.length cap,.i p,.bool bad,.bool pk])(hb:w0.heap.size≤b)(h:iQ w0 (.slice a l.length cap) l)(hp:p≤l.length)(hll:l.length≤60000000) :
  Calls Tryz.prog 106 #[.q b 0] w fun e w'=>∃(t:bD) (p':Nat) (d':Bool),e = .returned t.v∧t.fit 5000∧t.least∧Sx.bI w.heap.size (fun W=>t.ok W) w'∧Got tY Qu l p bad p' d' t.q∧Iy w0 w w' b a l cap pk p' d':=by
 skip;refine axc Tryz.func106 Tryz.ntmps106 hE hx hb fun ac S=>avP fun _ aV=>avQ S 2 Sx.za fun ac u b2 E3 hb4 S=>apB<|aV _ _<|avP (fun _ dA=>?_);have hy1:=(((Ch.trans (Ch.refl b w) (Ch.bf E3)))).size;refine avQ S 3 Sx.za fun ac u b6 E7 hb8 S=>apB<|dA _ _<|awg fun _ ig=>avP fun _ dZ=>adr S 6 [] [(6,.q b6 0),(7,.q b6 4),(8,.q b6 8),(9,.q b6 12),(10,.q b6 16),(11,.q b6 20)] fun S=>awc S 12 6 [.q b6 0,.q b6 4,.q b6 8,.q b6 12,.q b6 16,.q b6 20] fun ac u b11 qN Ry S=>adr S 2 [] [(13,.i 6),(14,.i 0)] fun S=>apB<|dZ _ _<|awi<|axk 7 ?_;rw[awv];refine avP fun _ gK=>adr S 1 [] [(15,.bool true)] fun S=>apB<|gK _ _<|awg fun _ iG=>avX S<|awh<|iG _ _<|awg fun _ iR=>awi<|avP fun _ gI=>adr S 3 [.mem 0 0] [(5,.q b6 0)] fun S=>apB<|gI _ _<|awk<|adr S 2 [] [(18,.q b6 0),(19,.q b 0)] (fun S=>?_);have S:=awu [(b11,[.q b6 0,.q b6 4,.q b6 8,.q b6 12,.q b6 16,.q b6 20]),(b6,Sx.za),(b2,Sx.za),(b,[.slice a l.length cap,.i p,.bool bad,.bool pk])] S;have y18:=(((Ch.trans (Ch.refl b w) (Ch.bf (Ext.trans' E3 (Ext.trans' E7 qN)))))).size;have atC:=(S.bx 0).1;have atD:=(S.bx 1).1;have atE:=(S.bx 2).1;have atF:=(S.bx 3).1;refine avY S 3 (some 20) rfl (J6 (hll:=hll) S.E (S.bx 3) (S.old 3) h hp) ?_;rintro e u ⟨t18,p18,d18,rfl,aqE,aqF,aqG,g18,KG,wO,qB,BG⟩;refine⟨_,_,rfl,wO,qB,BG,fun ac S=>?_⟩;have ad2:=qB.size;have sN:=(aI ((Ch.trans (Ch.refl b w) (Ch.bf (Ext.trans' E3 (Ext.trans' E7 qN))))) qB (by first | exact .inl rfl | exact .inr (by omega)));refine adr S 1 [] [(21,.q b6 0)] fun S=>avT S 1 (off:=0) (cs:=t18.cells) rfl (fun u BH S=>?_);have wP:=(aI sN BH (by first | exact .inl rfl | exact .inr (by omega)));have yN:=(bI.ch aqG BH (by omega));refine apB<|iR _ _<|awk<|adr S 2 [] [(14,.i 1)] fun S=>apB ?_;show Code.rounds _ _ _ 6 _ _;rw[awv];refine avP fun _ mQ=>adr S 1 [] [(15,.bool true)] fun S=>apB<|mQ _ _<|awg fun _ kU=>avX S<|awh<|kU _ _<|awg fun _ oI=>awi<|avP fun _ jd=>adr S 3 [.mem 0 1] [(5,.q b6 4)] fun S=>apB<|jd _ _<|awk<|adr S 2 [] [(18,.q b6 4),(19,.q b 0)] (fun S=>?_);have S:=awu [(b11,[.q b6 0,.q b6 4,.q b6 8,.q b6 12,.q b6 16,.q b6 20]),(b6,(t18.cells++Sx.zr++Sx.zr++Sx.zr++Sx.zr++Sx.zr)),(b2,Sx.za),(b,[.slice a l.length cap,.i p18,.bool d18,.bool pk])] S;have y27:=(wP).size;have atG:=(S.bx 0).1;have atH:=(S.bx 1).1;have atI:=(S.bx 2).1;have atJ:=(S.bx 3).1;refine avY S 3 (some 20) rfl (J6 (hll:=hll) S.E (S.bx 3) (S.old 3) h KG) ?_;rintro e u ⟨t27,p27,d27,rfl,aqH,aqI,aqJ,g27,aqK,ais,YA,ait⟩;refine⟨_,_,rfl,ais,YA,ait,fun ac S=>?_⟩;have au9:=YA.size;have IC:=(aI wP YA (by first | exact .inl rfl | exact .inr (by omega)));have wH:=(bI.ch yN YA (by omega));refine adr S 1 [] [(21,.q b6 4)] fun S=>avT S 1 (off:=4) (cs:=t27.cells) rfl (fun u ZG S=>?_);have Ag:=(aI IC ZG (by first | exact .inl rfl | exact .inr (by omega)));have Eb:=(bI.ch wH ZG (by omega));have BX:=(bI.ch aqJ ZG (by omega));refine apB<|oI _ _<|awk<|adr S 2 [] [(14,.i 2)] fun S=>apB ?_;show Code.rounds _ _ _ 5 _ _;rw[awv];refine avP fun _ qU=>adr S 1 [] [(15,.bool true)] fun S=>apB<|qU _ _<|awg fun _ oD=>avX S<|awh<|oD _ _<|awg fun _ lg=>awi<|avP fun _ nV=>adr S 3 [.mem 0 2] [(5,.q b6 8)] fun S=>apB<|nV _ _<|awk<|adr S 2 [] [(18,.q b6 8),(19,.q b 0)] (fun S=>?_);have S:=awu [(b11,[.q b6 0,.q b6 4,.q b6 8,.q b6 12,.q b6 16,.q b6 20]),(b6,(t18.cells++t27.cells++Sx.zr++Sx.zr++Sx.zr++Sx.zr)),(b2,Sx.za),(b,[.slice a l.length cap,.i p27,.bool d27,.bool pk])] S;have y38:=(Ag).size;have atK:=(S.bx 0).1;have atL:=(S.bx 1).1;have atM:=(S.bx 2).1;have atN:=(S.bx 3).1;refine avY S 3 (some 20) rfl (J6 (hll:=hll) S.E (S.bx 3) (S.old 3) h aqK) ?_;rintro e u ⟨t38,p38,d38,rfl,aqL,aqM,aqN,g38,aqO,ac4,Qx,ai1⟩;refine⟨_,_,rfl,ac4,Qx,ai1,fun ac S=>?_⟩;have ava:=Qx.size;have Qy:=(aI Ag Qx (by first | exact .inl rfl | exact .inr (by omega)));have aeN:=(bI.ch Eb Qx (by omega));have Oc:=(bI.ch BX Qx (by omega));refine adr S 1 [] [(21,.q b6 8)] fun S=>avT S 1 (off:=8) (cs:=t38.cells) rfl (fun u C42 S=>?_);have yL:=(aI Qy C42 (by first | exact .inl rfl | exact .inr (by omega)));have Sm:=(bI.ch aeN C42 (by omega));have ug:=(bI.ch Oc C42 (by omega));have Jf:=(bI.ch aqN C42 (by omega));refine apB<|lg _ _<|awk<|adr S 2 [] [(14,.i 3)] fun S=>apB ?_;show Code.rounds _ _ _ 4 _ _;rw[awv];refine avP fun _ uT=>adr S 1 [] [(15,.bool true)] fun S=>apB<|uT _ _<|awg fun _ sO=>avX S<|awh<|sO _ _<|awg fun _ uU=>awi<|avP fun _ sS=>adr S 3 [.mem 0 3] [(5,.q b6 12)] fun S=>apB<|sS _ _<|awk<|adr S 2 [] [(18,.q b6 12),(19,.q b 0)] (fun S=>?_);have S:=awu [(b11,[.q b6 0,.q b6 4,.q b6 8,.q b6 12,.q b6 16,.q b6 20]),(b6,(t18.cells++t27.cells++t38.cells++Sx.zr++Sx.zr++Sx.zr)),(b2,Sx.za),(b,[.slice a l.length cap,.i p38,.bool d38,.bool pk])] S;have y51:=(yL).size;have atO:=(S.bx 0).1;have atP:=(S.bx 1).1;have atQ:=(S.bx 2).1;have atS:=(S.bx 3).1;refine avY S 3 (some 20) rfl (J6 (hll:=hll) S.E (S.bx 3) (S.old 3) h aqO) ?_;rintro e u ⟨t51,p51,d51,rfl,aqP,aqQ,aqR,g51,aqS,aqT,Zh,aqU⟩;refine⟨_,_,rfl,aqT,Zh,aqU,fun ac S=>?_⟩;have avb:=Zh.size;have Fe:=(aI yL Zh (by first | exact .inl rfl | exact .inr (by omega)));have D6:=(bI.ch Sm Zh (by omega));have Oj:=(bI.ch ug Zh (by omega));have Xu:=(bI.ch Jf Zh (by omega));refine adr S 1 [] [(21,.q b6 12)] fun S=>avT S 1 (off:=12) (cs:=t51.cells) rfl (fun u C56 S=>?_);have Xv:=(aI Fe C56 (by first | exact .inl rfl | exact .inr (by omega)));have ET:=(bI.ch D6 C56 (by omega));have aaA:=(bI.ch Oj C56 (by omega));have aau:=(bI.ch Xu C56 (by omega));have NV:=(bI.ch aqR C56 (by omega));refine apB<|uU _ _<|awk<|adr S 2 [] [(14,.i 4)] fun S=>apB ?_;show Code.rounds _ _ _ 3 _ _;rw[awv];refine avP fun _ ab1=>adr S 1 [] [(15,.bool true)] fun S=>apB<|ab1 _ _<|awg fun _ aii=>avX S<|awh<|aii _ _<|awg fun _ Oh=>awi<|avP fun _ aeU=>adr S 3 [.mem 0 4] [(5,.q b6 16)] fun S=>apB<|aeU _ _<|awk<|adr S 2 [] [(18,.q b6 16),(19,.q b 0)] (fun S=>?_);have S:=awu [(b11,[.q b6 0,.q b6 4,.q b6 8,.q b6 12,.q b6 16,.q b6 20]),(b6,(t18.cells++t27.cells++t38.cells++t51.cells++Sx.zr++Sx.zr)),(b2,Sx.za),(b,[.slice a l.length cap,.i p51,.bool d51,.bool pk])] S;have y66:=(Xv).size;have atT:=(S.bx 0).1;have atU:=(S.bx 1).1;have atV:=(S.bx 2).1;have atW:=(S.bx 3).1;refine avY S 3 (some 20) rfl (J6 (hll:=hll) S.E (S.bx 3) (S.old 3) h aqS) ?_;rintro e u ⟨t66,p66,d66,rfl,aqV,aqW,aqX,g66,aqY,aqZ,UZ,aq0⟩;refine⟨_,_,rfl,aqZ,UZ,aq0,fun ac S=>?_⟩;have avc:=UZ.size;have KI:=(aI Xv UZ (by first | exact .inl rfl | exact .inr (by omega)));have RH:=(bI.ch ET UZ (by omega));have aia:=(bI.ch aaA UZ (by omega));have Ub:=(bI.ch aau UZ (by omega));have RJ:=(bI.ch NV UZ (by omega));refine adr S 1 [] [(21,.q b6 16)] fun S=>avT S 1 (off:=16) (cs:=t66.cells) rfl (fun u C72 S=>?_);have XF:=(aI KI C72 (by first | exact .inl rfl | exact .inr (by omega)));have ahs:=(bI.ch RH C72 (by omega));have aht:=(bI.ch aia C72 (by omega));have aad:=(bI.ch Ub C72 (by omega));have XG:=(bI.ch RJ C72 (by omega));have RN:=(bI.ch aqX C72 (by omega));refine apB<|Oh _ _<|awk<|adr S 2 [] [(14,.i 5)] fun S=>apB ?_;show Code.rounds _ _ _ 2 _ _;rw[awv];refine avP fun _ aae=>adr S 1 [] [(15,.bool true)] fun S=>apB<|aae _ _<|awg fun _ ahv=>avX S<|awh<|ahv _ _<|awg fun _ ain=>awi<|avP fun _ RP=>adr S 3 [.mem 0 5] [(5,.q b6 20)] fun S=>apB<|RP _ _<|awk<|adr S 2 [] [(18,.q b6 20),(19,.q b 0)] (fun S=>?_);have S:=awu [(b11,[.q b6 0,.q b6 4,.q b6 8,.q b6 12,.q b6 16,.q b6 20]),(b6,(t18.cells++t27.cells++t38.cells++t51.cells++t66.cells++Sx.zr)),(b2,Sx.za),(b,[.slice a l.length cap,.i p66,.bool d66,.bool pk])] S;have y83:=(XF).size;have atX:=(S.bx 0).1;have atY:=(S.bx 1).1;have atZ:=(S.bx 2).1;have at1:=(S.bx 3).1;refine avY S 3 (some 20) rfl (J6 (hll:=hll) S.E (S.bx 3) (S.old 3) h aqY) ?_;rintro e u ⟨t83,p83,d83,rfl,aq1,aq2,aq3,g83,aq4,aq5,Qz,aq6⟩;refine⟨_,_,rfl,aq5,Qz,aq6,fun ac S=>?_⟩;have avd:=Qz.size;have aaf:=(aI XF Qz (by first | exact .inl rfl | exact .inr (by omega)));have abW:=(bI.ch ahs Qz (by omega));have Ol:=(bI.ch aht Qz (by omega));have aaD:=(bI.ch aad Qz (by omega));have aaE:=(bI.ch XG Qz (by omega));have aic:=(bI.ch RN Qz (by omega));refine adr S 1 [] [(21,.q b6 20)] fun S=>avT S 1 (off:=20) (cs:=t83.cells) rfl (fun u C90 S=>?_);have aq7:=(aI aaf C90 (by first | exact .inl rfl | exact .inr (by omega)));have ahx:=(bI.ch abW C90 (by omega));have ahy:=(bI.ch Ol C90 (by omega));have ahz:=(bI.ch aaD C90 (by omega));have aq8:=(bI.ch aaE C90 (by omega));have aeh:=(bI.ch aic C90 (by omega));have ahA:=(bI.ch aq3 C90 (by omega));refine apB<|ain _ _<|awk<|adr S 2 [] [(14,.i 6)] fun S=>apB ?_;show Code.rounds _ _ _ 1 _ _;rw[awv];refine avP fun _ aio=>adr S 1 [] [(15,.z)] fun S=>apB<|aio _ _<|awg fun _ amN=>av4 S<|awy<|ig _ _<|avP fun _ ang=>adr S 1 [.mem 1 0] [(23,.agg (t18.cells++t27.cells++t38.cells++t51.cells++t66.cells++t83.cells).toArray)] fun S=>avT S 2 (off:=0) (cs:=(t18.cells++t27.cells++t38.cells++t51.cells++t66.cells++t83.cells)) rfl (fun u U0 S=>?_);have aaI:=(aI aq7 U0 (by first | exact .inl rfl | exact .inr (by omega)));have aaJ:=(bI.ch ahx U0 (by omega));have anh:=(bI.ch ahy U0 (by omega));have Fj:=(bI.ch ahz U0 (by omega));have Fp:=(bI.ch aq8 U0 (by omega));have Oo:=(bI.ch aeh U0 (by omega));have abX:=(bI.ch ahA U0 (by omega));refine apB<|ang _ _<|awd S 2 Tryz.results106 rfl (v := .agg (t18.cells++t27.cells++t38.cells++t51.cells++t66.cells++t83.cells).toArray) ?_;exact⟨⟨t18,t27,t38,t51,t66,t83⟩,_,_,rfl,⟨aqE,aqH,aqL,aqP,aqV,aq1⟩,⟨aqF,aqI,aqM,aqQ,aqW,aq2⟩,(axu (Sx.bI.le aaJ (by omega)) (axu (Sx.bI.le anh (by omega)) (axu (Sx.bI.le Fj (by omega)) (axu (Sx.bI.le Fp (by omega)) (axu (Sx.bI.le Oo (by omega)) (Sx.bI.le abX (by omega))))))),afp g18 g27 g38 g51 g66 g83,aq4,S.E,aaI,S.bx 3⟩
end Go.Proofs.YtapmgonflgahbaaGreatDoor
end
