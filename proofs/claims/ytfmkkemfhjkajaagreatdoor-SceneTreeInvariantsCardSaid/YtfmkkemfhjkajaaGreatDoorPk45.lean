/- Scenes and edits that came in. A region that draws its order, where a pure operation may be taken as soon as what it reads is there. No program in sight. Rows of one's own survive a change in a block of another type. No program in sight. -/
import Derived.Test.YtfmkkemfhjkajaaGreatDoorOpn36
import Derived.Test.YtfmkkemfhjkajaaGreatDoorPk34
import Derived.Test.YtfmkkemfhjkajaaGreatDoorPk41
import Derived.Test.YtfmkkemfhjkajaaGreatDoorScW3
import Derived.Test.YtfmkkemfhjkajaaGreatDoorHoist2
section
namespace Go.Proofs.YtfmkkemfhjkajaaGreatDoor
open Go.RowKit Go.ChangeShapes Go.WideShapes
variable{α:Type}
set_option linter.unusedVariables false
section
variable{H:Type}{enc:TypeId×Value→H}{W:World}{sp:Nat→Bool}{held:Bool}{n:Nat}{cs:List Value}{y:DataW H×List MemPlace}
set_option maxRecDepth 100000
/-- A scene as it comes in. -/
def SceneD.ok(W:World)(s:SceneD):Prop:=I64 s.w∧I64 s.h∧IsRowN 47 NodeD.cells W s.s s.ns∧∀n∈s.ns,n.ok W
def EditD.ok(W:World)(e:EditD):Prop:=I64 e.kind∧I64 e.id∧I64 e.index∧I64 e.depth∧e.node.ok W
theorem opn_scene(h:DataW.trod enc Tryz.prog W 0 sp held n 26 cs=some y):∃m:SceneD,cs=m.cells∧m.ok W:=by
 obtain⟨xs,n',rfl,hx,hl,hlen,hg⟩:=DataW.trod_struct Tryz.underlying26 h
 have hl:cs.length=7:=hl.trans (by kernel_rfl)
 have g0:DataW.trod enc Tryz.prog W 0 sp held n' 3 ((cs.drop 0).take (Tryz.prog.cellsOf 3))=xs[0]?:=hg 0 _ rfl
 obtain⟨y0,e0⟩:=get_some' (i:=0) hlen (by decide)
 rw[e0]at g0
 rw[show Tryz.prog.cellsOf 3=1 by kernel_rfl]at g0
 obtain⟨x0,c0,w0⟩:=opn_i64 Tryz.underlying3 g0
 have g1:DataW.trod enc Tryz.prog W 0 sp held n' 3 ((cs.drop 1).take (Tryz.prog.cellsOf 3))=xs[1]?:=hg 1 _ rfl
 obtain⟨y1,e1⟩:=get_some' (i:=1) hlen (by decide)
 rw[e1]at g1
 rw[show Tryz.prog.cellsOf 3=1 by kernel_rfl]at g1
 obtain⟨x1,c1,w1⟩:=opn_i64 Tryz.underlying3 g1
 have g2:DataW.trod enc Tryz.prog W 0 sp held n' 23 ((cs.drop 2).take (Tryz.prog.cellsOf 23))=xs[2]?:=hg 2 _ rfl
 obtain⟨y2,e2⟩:=get_some' (i:=2) hlen (by decide)
 rw[e2]at g2
 rw[show Tryz.prog.cellsOf 23=4 by kernel_rfl]at g2
 obtain⟨m2,c2⟩:=opn_color g2
 have g3:DataW.trod enc Tryz.prog W 0 sp held n' 24 ((cs.drop 6).take (Tryz.prog.cellsOf 24))=xs[3]?:=hg 3 _ rfl
 obtain⟨y3,e3⟩:=get_some' (i:=3) hlen (by decide)
 rw[e3]at g3
 rw[show Tryz.prog.cellsOf 24=1 by kernel_rfl]at g3
 obtain⟨a3,k3,l3,c3,r3,w3⟩:=opn_row (k:=47) Tryz.underlying24 (by decide) (by kernel_rfl) NodeD.cells (fun n=>n.ok W) (fun n cs y h=>opn_node h) g3
 have hc:=(show cs=(cs.drop 0).take 7 by rw[List.drop_zero,List.take_of_length_le (by omega)]).trans ((cut_step cs 0 1 1 6 7 rfl rfl).trans (congrArg _ ((cut_step cs 1 1 2 5 6 rfl rfl).trans (congrArg _ (cut_step cs 2 4 6 1 5 rfl rfl)))))
 rw[c0,c1,c2,c3]at hc
 exact⟨⟨x0,x1,m2,a3,k3,l3⟩,hc.trans (by kernel_rfl),w0,w1,r3,w3⟩
theorem opn_edit(h:DataW.trod enc Tryz.prog W 0 sp held n 45 cs=some y):∃m:EditD,cs=m.cells∧m.ok W:=by
 obtain⟨xs,n',rfl,hx,hl,hlen,hg⟩:=DataW.trod_struct Tryz.underlying45 h
 have hl:cs.length=55:=hl.trans (by kernel_rfl)
 have g0:DataW.trod enc Tryz.prog W 0 sp held n' 3 ((cs.drop 0).take (Tryz.prog.cellsOf 3))=xs[0]?:=hg 0 _ rfl
 obtain⟨y0,e0⟩:=get_some' (i:=0) hlen (by decide)
 rw[e0]at g0
 rw[show Tryz.prog.cellsOf 3=1 by kernel_rfl]at g0
 obtain⟨x0,c0,w0⟩:=opn_i64 Tryz.underlying3 g0
 have g1:DataW.trod enc Tryz.prog W 0 sp held n' 3 ((cs.drop 1).take (Tryz.prog.cellsOf 3))=xs[1]?:=hg 1 _ rfl
 obtain⟨y1,e1⟩:=get_some' (i:=1) hlen (by decide)
 rw[e1]at g1
 rw[show Tryz.prog.cellsOf 3=1 by kernel_rfl]at g1
 obtain⟨x1,c1,w1⟩:=opn_i64 Tryz.underlying3 g1
 have g2:DataW.trod enc Tryz.prog W 0 sp held n' 3 ((cs.drop 2).take (Tryz.prog.cellsOf 3))=xs[2]?:=hg 2 _ rfl
 obtain⟨y2,e2⟩:=get_some' (i:=2) hlen (by decide)
 rw[e2]at g2
 rw[show Tryz.prog.cellsOf 3=1 by kernel_rfl]at g2
 obtain⟨x2,c2,w2⟩:=opn_i64 Tryz.underlying3 g2
 have g3:DataW.trod enc Tryz.prog W 0 sp held n' 3 ((cs.drop 3).take (Tryz.prog.cellsOf 3))=xs[3]?:=hg 3 _ rfl
 obtain⟨y3,e3⟩:=get_some' (i:=3) hlen (by decide)
 rw[e3]at g3
 rw[show Tryz.prog.cellsOf 3=1 by kernel_rfl]at g3
 obtain⟨x3,c3,w3⟩:=opn_i64 Tryz.underlying3 g3
 have g4:DataW.trod enc Tryz.prog W 0 sp held n' 43 ((cs.drop 4).take (Tryz.prog.cellsOf 43))=xs[4]?:=hg 4 _ rfl
 obtain⟨y4,e4⟩:=get_some' (i:=4) hlen (by decide)
 rw[e4]at g4
 rw[show Tryz.prog.cellsOf 43=47 by kernel_rfl]at g4
 obtain⟨m4,c4,w4⟩:=opn_node g4
 have g5:DataW.trod enc Tryz.prog W 0 sp held n' 23 ((cs.drop 51).take (Tryz.prog.cellsOf 23))=xs[5]?:=hg 5 _ rfl
 obtain⟨y5,e5⟩:=get_some' (i:=5) hlen (by decide)
 rw[e5]at g5
 rw[show Tryz.prog.cellsOf 23=4 by kernel_rfl]at g5
 obtain⟨m5,c5⟩:=opn_color g5
 have hc:=(show cs=(cs.drop 0).take 55 by rw[List.drop_zero,List.take_of_length_le (by omega)]).trans ((cut_step cs 0 1 1 54 55 rfl rfl).trans (congrArg _ ((cut_step cs 1 1 2 53 54 rfl rfl).trans (congrArg _ ((cut_step cs 2 1 3 52 53 rfl rfl).trans (congrArg _ ((cut_step cs 3 1 4 51 52 rfl rfl).trans (congrArg _ (cut_step cs 4 47 51 4 51 rfl rfl)))))))))
 rw[c0,c1,c2,c3,c4,c5]at hc
 exact⟨⟨x0,x1,x2,x3,m4,m5⟩,hc.trans (by kernel_rfl),w0,w1,w2,w3,w4⟩
theorem open_scene{base:Nat}{v:Value}{d:DataW H}{p:List MemPlace}(hv:Value.okWide Tryz.prog W .any base 26 v)(h:DataW.Trod enc Tryz.prog W 0 sp held 26 v d p):∃m:SceneD,v=m.v∧m.ok W:=by
 obtain⟨cs,rfl,hsz⟩:=okWide_struct Tryz.underlying26 hv
 obtain⟨fuel,hf⟩:=h
 obtain⟨l⟩:=cs
 obtain⟨m,hm,ho⟩:=opn_scene (cs:=l) (y:=(d,p)) hf
 exact⟨m,by rw[hm]; rfl,ho⟩
theorem open_edit{base:Nat}{v:Value}{d:DataW H}{p:List MemPlace}(hv:Value.okWide Tryz.prog W .any base 45 v)(h:DataW.Trod enc Tryz.prog W 0 sp held 45 v d p):∃m:EditD,v=m.v∧m.ok W:=by
 obtain⟨cs,rfl,hsz⟩:=okWide_struct Tryz.underlying45 hv
 obtain⟨fuel,hf⟩:=h
 obtain⟨l⟩:=cs
 obtain⟨m,hm,ho⟩:=opn_edit (cs:=l) (y:=(d,p)) hf
 exact⟨m,by rw[hm]; rfl,ho⟩
end
end Go.Proofs.YtfmkkemfhjkajaaGreatDoor
end
section
namespace Go.Sx
open Go.Proofs.YtfmkkemfhjkajaaGreatDoor Go.RowKit Go.Rel
set_option linter.unusedVariables false
theorem delay_go{P:Program}{ops ops':Array Oper}{Q:Exit→Act→World→Prop}{p q:Nat}{o:Oper}(ho':ops'[p]?=some o)
  (hK:∀(K:Act→World→Prop) a w,wpOp P ops (Bot Q) p K a w→∃v,Yields P ops' o v a∧K (a.put o.dst v) w) (hs:Region.noSelect ops'=true) (hpq:p≠q)
  (hap:∀j oj,ops'[j]?=some oj→j≠p→j≠q→(∀e∈oj.after,Region.binds .any e=true→e.on≠p)→o.apart ops' oj=true)
  (hop:∀i K a w,wpOp P ops (Bot Q) i K a w→wpOp P ops' (Bot Q) i K a w)
  (hA:∀f (L:Array Bool) a w,L.getD p false=true→wpAny P .any ops (Bot Q) f L a w→wpAny P .any ops' (Bot Q) f L a w)
  (hR:∀L:Array Bool,L.getD q true=false→Region.ready .any ops L=Region.ready .any ops' L∧p∉Region.ready .any ops' L)
  (hP:∀L:Array Bool,L.getD q false=true→L.getD p true=false→p∈Region.ready .any ops L∧p∈Region.ready .any ops' L) :
  ∀(f:Nat) (L:Array Bool) (a:Act) (w:World),L.getD q true=false→L.getD p true=false→wpAny P .any ops (Bot Q) f L a w→wpAny P .any ops' (Bot Q) f L a w
 | 0,L,a,w,hq,hp,h=>⟨(hR L hq).1▸h.1,h.2⟩
 | f+1,L,a,w,hq,hp,h=>by
  refine⟨fun h0=>h.1 ((hR L hq).1.trans h0),fun i hi=>?_⟩
  have h2:=hop i _ a w (h.2 i ((hR L hq).1▸hi))
  have hip:i≠p:=fun e=>(hR L hq).2 (e▸hi)
  have hne:∀(j:Nat),j≠i→∀d,(L.setIfInBounds i true).getD j d=L.getD j d:=fun j hj d=>by
   simp[Array.getD_eq_getD_getElem?,Array.getElem?_setIfInBounds_ne (Ne.symm hj)]
  by_cases hiq:i=q
  ·subst hiq
   refine wpOp_mono (fun a' w' h'=>?_) h2
   have hlt:i<L.size:=by
    by_cases h:i<L.size
    ·exact h
    ·rw[Array.getD_eq_getD_getElem?,Array.getElem?_eq_none (by omega)]at hq; cases hq
   have hq':(L.setIfInBounds i true).getD i false=true:=by simp[Array.getD_eq_getD_getElem?,hlt]
   have hp':(L.setIfInBounds i true).getD p true=false:=by rw[hne p (Ne.symm hip)]; exact hp
   obtain⟨r1,r2⟩:=hP _ hq' hp'
   cases f with
   | zero=>rw[h'.1]at r1; cases r1
   | succ g =>
    obtain⟨v,hy,h3⟩:=hK _ a' w' (h'.2 p r1)
    have hltp:p<L.size:=by
     by_cases h:p<L.size
     ·exact h
     ·rw[Array.getD_eq_getD_getElem?,Array.getElem?_eq_none (by omega)]at hp; cases hp
    refine wpAny_first ho' (Region.noSelect_spec hs) (fun c a w h=>h.elim) g _ a' w' (fun j oj hj hjp hun hno=>hap j oj hj hjp (fun e=>?_) hno) r2 hy (hA _ _ _ _ (by simp[Array.getD_eq_getD_getElem?,hltp]) h3)
    subst e
    simp[Array.getD_eq_getD_getElem?,hlt]at hun
  ·refine wpOp_mono (fun a' w' h'=>delay_go ho' hK hs hpq hap hop hA hR hP f _ a' w' ?_ ?_ h') h2
   ·rw[hne q (Ne.symm hiq)]; exact hq
   ·rw[hne p (Ne.symm hip)]; exact hp
def delayB(p q t:Nat)(os:List Oper):Bool:=Region.noSelect os.toArray&&p != q&&p != t&&decide (q<os.length)&&(bindOn os.toArray p==[q])&&(bindOn os.toArray t).contains q &&
 (match os[p]? with | some o=>o.guard.isNone&&(match o.op with | .extract _ _=>true | _=>false)&&(List.range os.length).all (fun j=>j==p||j==q||(bindOn os.toArray j).contains p||(match os[j]? with | some oj=>o.apart os.toArray oj | none=>true)) | none=>false)
theorem addE_bind{p t:Nat}{os:List Oper}{j q:Nat}:q∈bindOn (addE [p] t os).toArray j↔q∈bindOn os.toArray j∨(j=t∧q=p∧j<os.length):=by
 unfold bindOn
 rw[List.getElem?_toArray,List.getElem?_toArray,addE_get]
 by_cases h:j=t
 ·subst h
  rw[if_pos rfl]
  cases ho:os[j]? with
  | none=>have:=List.getElem?_eq_none_iff.1 ho; simp; omega
  | some o =>
   have hl:=(List.getElem?_eq_some_iff.1 ho).1
   simp only[Option.map_some,Array.toList_append,List.filterMap_append,List.mem_append,List.map_cons,List.map_nil]
   refine or_congr Iff.rfl ?_
   simp[Region.binds,hl,eq_comm]
 ·rw[if_neg h]; simp[h]
theorem getD_ft{L:Array Bool}{q:Nat}(h:L.getD q true=false):L.getD q false=false:=by
 by_cases hl:q<L.size
 ·rw[←getD_any hl true false]; exact h
 ·rw[Array.getD_eq_getD_getElem?,Array.getElem?_eq_none (by omega)]at h; cases h
theorem ready_ext{ops ops':Array Oper}{L:Array Bool}(hsz:ops.size=ops'.size)(h:∀j,j∈Region.ready .any ops L↔j∈Region.ready .any ops' L):Region.ready .any ops L=Region.ready .any ops' L:=by
 unfold Region.ready at *
 rw[hsz]at *
 refine List.filter_congr fun x hx=>?_
 have:=h x
 simp only[List.mem_filter,hx,true_and]at this
 exact Bool.eq_iff_iff.2 this
theorem extract_any{P:Program}{tt:Value}{ix:Nat}:(∃v,∀w,(Instr.extract tt ix).run P w = .ok v w)∨∀w,∃x,(Instr.extract tt ix).run P w = .halt x w:=by
 unfold Instr.extract
 split
 ·split
  ·exact .inl ⟨_,fun w=>rfl⟩
  ·exact .inr fun w=>⟨_,rfl⟩
 ·exact .inr fun w=>⟨_,rfl⟩
theorem delay{P:Program}{Q:Exit→Act→World→Prop}{a:Act}{w:World}{os:List Oper}{id:Nat}(p q t:Nat)(h:wpAny P .any (addE [p] t os).toArray (Bot Q) (addE [p] t os).toArray.size (Array.replicate (addE [p] t os).toArray.size false) a { w with drawn:=w.drawn+1 })
  (hb:delayB p q t os=true:=by kernel_rfl) (hmo:P.follows .mixedOrders=true:=by kernel_rfl):(Code.region id os.toArray true).wp P Q a w:=by
 rw[show(addE [p] t os).toArray.size=os.length by unfold addE; simp]at h
 unfold delayB at hb
 simp only[Bool.and_eq_true,bne_iff_ne,ne_eq,decide_eq_true_eq,beq_iff_eq]at hb
 obtain⟨⟨⟨⟨⟨⟨hs,hpq⟩,hpt⟩,hql⟩,hbp⟩,hbt⟩,hm⟩:=hb
 have hbt:q∈bindOn os.toArray t:=by simpa using hbt
 split at hm
 ·rename_i o ho
  simp only[Bool.and_eq_true,List.all_eq_true,List.mem_range,Bool.or_eq_true,beq_iff_eq]at hm
  obtain⟨⟨hg,hx⟩,hap⟩:=hm
  have hg:o.guard=none:=by simpa using hg
  obtain⟨tt,ix,hop⟩:∃tt ix,o.op = .extract tt ix:=by split at hx; exact⟨_,_,by assumption⟩; cases hx
  have hpl:=(List.getElem?_eq_some_iff.1 ho).1
  have ho':os.toArray[p]?=some o:=by simpa using ho
  have hop2:(addE [p] t os).toArray[p]?=some o:=by rw[List.getElem?_toArray,addE_get,if_neg hpt]; exact ho
  have hal:=alike_addE [p] t os
  refine wp_region_any hmo (wpAny_bot _ _ _ _ ?_)
  have hsz:(addE [p] t os).toArray.size=os.toArray.size:=hal.1
  have hrep:∀j,j<os.length→∀d,(Array.replicate os.length false).getD j d=false:=fun j hj d=>by simp[Array.getD_eq_getD_getElem?,hj]
  have key:=delay_go (P:=P) (Q:=Q) (ops:=(addE [p] t os).toArray) (ops':=os.toArray) (p:=p) (q:=q) ho' (fun K a w h=>?_) hs hpq (fun j oj hj h1 h2 h3=>?_) (fun i K a w h=>hal.wpOp (fun _ _ h=>h) h) (fun f L a w hL h=>?_) (fun L hL=>?_) (fun L hL hL2=>?_) os.length (Array.replicate os.length false) a { w with drawn:=w.drawn+1 } (hrep q hql _) (hrep p hpl _) h
  ·simpa using key
  ·unfold wpOp at h
   rw[hop2]at h
   simp only at h
   rw[if_pos (by simp[Region.wanted,hg])]at h
   rcases h with h | ⟨_,h⟩
   ·have he:∀w,(execOp a.eval o).run P w=match (Instr.extract (a.eval tt) ix).run P w with | .ok v w => .ok (.value v) w | .halt x w => .halt x w:=fun w=>by unfold execOp; simp only[hop]; generalize Instr.extract (a.eval tt) ix=m; simp[go_sem]; cases Sem.run P m w<;>rfl
    rcases extract_any (P:=P) (tt:=a.eval tt) (ix:=ix)with ⟨v,hv⟩ | hb
    ·have hrun:∀w,(execOp a.eval o).run P w = .ok (.value v) w:=fun w=>by rw[he,hv]
     exact⟨v,.inl ⟨by simp[Region.wanted,hg],hrun⟩,by unfold Oper.wp at h; rw[hrun w]at h; exact h⟩
    ·obtain⟨x,hx⟩:=hb w
     unfold Oper.wp at h
     rw[he,hx]at h
     cases x<;>simp only[Oper.upon]at h
     exact h.elim
   ·exact(not_lets h).elim
  ·have hj':os[j]?=some oj:=by simpa using hj
   have:=hap j (List.getElem?_eq_some_iff.1 hj').1
   rw[hj']at this
   rcases this with ((h4 | h4) | h4) | h4
   ·exact absurd h4 h1
   ·exact absurd h4 h2
   ·obtain⟨e,he,hbe,h5⟩:=(mem_bindOn hj).1 (by simpa using h4)
    exact absurd h5 (h3 e he hbe)
   ·exact h4
  ·refine wpAny_alike (F:=[p]) hal (fun i o1 o2 h1 h2 e he hbe=>?_) (fun i o1 o2 h1 h2 e he hbe=>?_) f L a w (fun i hi=>by rw[List.mem_singleton.1 hi]; exact hL) h
   ·rcases addE_bind.1 ((mem_bindOn h1).2 ⟨e,he,hbe,rfl⟩)with h3 | h3
    ·exact .inr ((mem_bindOn h2).1 h3)
    ·exact .inl (by simp[h3.2.1])
   ·exact(mem_bindOn h1).1 (addE_bind.2 (.inl ((mem_bindOn h2).2 ⟨e,he,hbe,rfl⟩)))
  ·have hq:=getD_ft hL
   have hnp:p∉Region.ready .any os.toArray L:=fun h=>by
    have:=(ready_iff.1 h).2.2 q (by rw[hbp]; simp)
    rw[hq]at this; cases this
   refine⟨ready_ext hsz fun j=>?_,hnp⟩
   rw[ready_iff,ready_iff,hsz]
   refine and_congr_right fun _=>and_congr_right fun _=>⟨fun g r hr=>g r (addE_bind.2 (.inl hr)),fun g r hr=>?_⟩
   rcases addE_bind.1 hr with hr | ⟨rfl,-,-⟩
   ·exact g r hr
   ·have:=g q hbt
    rw[hq]at this; cases this
  ·refine⟨ready_iff.2 ⟨by rw[hsz]; simpa using hpl,hL2,fun r hr=>?_⟩,ready_iff.2 ⟨by simpa using hpl,hL2,fun r hr=>?_⟩⟩
   ·rcases addE_bind.1 hr with hr | ⟨h1,-,-⟩
    ·rw[hbp]at hr; rw[List.mem_singleton.1 hr]; exact hL
    ·exact absurd h1 hpt
   ·rw[hbp]at hr; rw[List.mem_singleton.1 hr]; exact hL
 ·cases hm
end Go.Sx
end
section
namespace Go.Proofs.YtfmkkemfhjkajaaGreatDoor
open Go.RowKit
variable{α:Type}{K base:Nat}{w w':World}{e0:TypeId}
set_option linter.unusedVariables false
/-- Blocks of other types are as they were. -/
def Sp(e0:TypeId)(w w':World):Prop:=w.heap.size≤w'.heap.size∧∀(g:Nat) (cur:Array Value) (e:TypeId),e≠e0→w.heap[g]?=some (.cells cur e (0,0))→w'.heap[g]?=w.heap[g]?
theorem sp_ch{b:Nat}{A:Array Value}{fz:Nat×Nat}(h:w.heap[b]?=some (.cells A e0 fz))(hc:Ch b w w'):Sp e0 w w':=⟨hc.size,fun g cur e he hg=>hc.block g (Sx.bx_obj hg).1 fun e1=>by
 obtain rfl:b=g:=(Option.some.inj e1).symm
 rw[h]at hg
 cases hg
 exact he rfl⟩
theorem ty_sp{k n:Nat}{e:TypeId}{v:Value}(he:e≠e0)(h:Sx.Ty e k base v n w)(hs:Sp e0 w w'):Sx.Ty e k base v n w':=by
 rcases h with h | ⟨g,cap,cur,h1,h2,h3,h4⟩
 ·exact .inl h
 ·exact .inr ⟨g,cap,cur,h1,h2,(hs.2 g cur e he h3).trans h3,h4⟩
theorem row_sp{k:Nat}{e:TypeId}{f:α→List Value}{v:Value}{L:List α}(he:e≠e0)(h:IsRowN k f w v L)(ht:Sx.Ty e k base v L.length w)(hs:Sp e0 w w'):IsRowN k f w' v L:=by
 obtain⟨a,cap,rfl,hm,hc⟩:=h
 refine⟨a,cap,rfl,hm,?_⟩
 rcases hc with hc | ⟨b,o,rfl,hlt,hl,hcell⟩
 ·exact .inl hc
 ·rcases ht with h0 | ⟨g,cap',cur,h1,h2,h3,h4⟩
  ·have hL:=List.eq_nil_of_length_eq_zero h0
   subst hL
   exact .inr ⟨b,o,rfl,Nat.lt_of_lt_of_le hlt hs.1,hl,fun i hi=>absurd hi (Nat.not_lt_zero _)⟩
  ·simp only[Value.slice.injEq,Option.some.injEq,Addr.mk.injEq,and_true,true_and]at h1
   obtain⟨⟨rfl,rfl⟩,rfl⟩:=h1
   exact .inr ⟨b,0,rfl,Nat.lt_of_lt_of_le hlt hs.1,hl,fun i hi j hj=>(World.cell?_of_block (a:=⟨b,0+i*k+j,none⟩) (hs.2 b cur e he h3)).trans (hcell i hi j hj)⟩
theorem rowT_sp{k:Nat}{e:TypeId}{f:α→List Value}{v:Value}{L:List α}(he:e≠e0)(h:Sx.RowT e k f base v L w)(hs:Sp e0 w w'):Sx.RowT e k f base v L w':=⟨row_sp he h.1 h.2 hs,ty_sp he h.2 hs⟩
theorem rowOf_sp{e:TypeId}{f:α→Value}{v:Value}{L:List α}(he:e≠e0)(h:IsRowOf f w v L)(ht:Sx.Ty e 1 base v L.length w)(hs:Sp e0 w w'):IsRowOf f w' v L:=of_rowN1 (row_sp he (rowN_one h) ht hs)
/-- A type that no copy of a node has. -/
def Odd(e0:TypeId):Prop:=194≠e0∧155≠e0∧122≠e0∧99≠e0∧62≠e0∧3≠e0∧43≠e0
instance:Decidable (Odd e0):=by unfold Odd; infer_instance
theorem rat_sp{r:RatD}(he:Odd e0)(h:r.okT base w)(hs:Sp e0 w w'):r.okT base w':=⟨⟨rowOf_sp he.1 h.1.1 h.2.1 hs,rowOf_sp he.1 h.1.2 h.2.2 hs⟩,ty_sp he.1 h.2.1 hs,ty_sp he.1 h.2.2 hs⟩
theorem aff_sp{t:AffD}(he:Odd e0)(h:t.okT base w)(hs:Sp e0 w w'):t.okT base w':=⟨rat_sp he h.1 hs,rat_sp he h.2.1 hs,rat_sp he h.2.2.1 hs,rat_sp he h.2.2.2.1 hs,rat_sp he h.2.2.2.2.1 hs,rat_sp he h.2.2.2.2.2 hs⟩
theorem paint_sp{p:PaintD}(he:Odd e0)(h:p.okT base w)(hs:Sp e0 w w'):p.okT base w':=by
 obtain⟨ho,t1,t2,ht⟩:=h
 have ht':=aff_sp he ht hs
 refine⟨?_,ty_sp he.2.1 t1 hs,ty_sp he.2.2.1 t2 hs,ht'⟩
 unfold PaintD.ok at *
 simp only[ImgD.ok]at *
 obtain⟨a1,a2,a3,a4,a5,a6,a7,a8,a9,a10⟩:=ho
 exact⟨a1,a2,a3,a4,row_sp he.2.1 a5 t1 hs,a6,a7,⟨a8.1,a8.2.1,row_sp he.2.2.1 a8.2.2 t2 hs⟩,a9,ht'.ok⟩
theorem paints_sp{v:Value}{l:List PaintD}(he:Odd e0)(h:IsPaintsT base w v l)(hs:Sp e0 w w'):IsPaintsT base w' v l:=⟨rowT_sp he.2.2.2.1 h.1 hs,fun p hp=>paint_sp he (h.2 p hp) hs⟩
theorem node_sp{n:NodeD}(he:Odd e0)(h:n.okT base w)(hs:Sp e0 w w'):n.okT base w':=by
 obtain⟨ho,t,c,p,f,s,d,m⟩:=h
 have t':=aff_sp he t hs
 have f':=paints_sp he f hs
 have s':=paints_sp he s hs
 refine⟨?_,t',ty_sp he.2.2.2.2.1 c hs,ty_sp he.2.2.2.2.1 p hs,f',s',ty_sp he.2.2.2.2.2.1 d hs,ty_sp he.2.2.1 m hs⟩
 unfold NodeD.ok at *
 simp only[ImgD.ok,StyleD.ok]at *
 obtain⟨h1,h2,h3,h4,h5,h6,h7,h8,h9,h10,⟨s1,s2,s3,s4,s5,s6,s7⟩,h12,⟨i1,i2,i3⟩,h14⟩:=ho
 exact⟨h1,h2,h3,t'.ok,⟨row_sp he.2.2.2.2.1 h5.1 c hs,h5.2⟩,h6,h7,⟨row_sp he.2.2.2.2.1 h8.1 p hs,h8.2⟩,h9,f'.ok,⟨s1,s2,s3,s4,rowOf_sp he.2.2.2.2.2.1 s5 d hs,s6,s7⟩,s'.ok,⟨i1,i2,row_sp he.2.2.1 i3 m hs⟩,h14⟩
theorem nodesT_sp{v:Value}{l:List NodeD}(he:Odd e0)(h:NodesT base v l w)(hs:Sp e0 w w'):NodesT base v l w':=⟨rowT_sp he.2.2.2.2.2.2 h.1 hs,fun n hn=>node_sp he (h.2 n hn) hs⟩
theorem isNodes_sp{v:Value}{l:List NodeD}(he:Odd e0)(h:CpNodes base v l w)(hf:∀n∈l,n.fitK K)(hs:Sp e0 w w'):IsNodes K w' v l:=by
 have:=nodesT_sp he (Sx.On.self h) hs
 exact⟨this.1.1,fun n hn=>⟨(this.2 n hn).1,hf n hn⟩⟩
open Go.Sx Go.Rel in
theorem _root_.Go.Sx.does_newT{P:Program}{w:World}{os:List Oper}{i:Nat}{o:Oper}{ρ:Operand→Value}(ho:os[i]?=some o)(hs:Std ρ)(l:List (Nat×Value))(hl:∀q v,l.lookup q=some v→ρ (.tmp q)=v)(A:List Value)(ty:TypeId){Post:Value→World→Prop}(hT:∀b w',w.heap.size≤b→w'.heap[b]?=some (.cells A.toArray ty (0,0))→Bx w' b A.toArray→Ext w w'→Post (.pointer (some ⟨b,0,Option.none⟩)) w')
  (hx:∀r,((os[i]?).bind fun o=>newOfT P r [o] l).map (fun q=>(q.1,q.2.1,q.2.2.1,q.2.2.2.isSome))=some (A,ty,shV Option.none r,true):=by intro r; kernel_rfl):Does P o ρ w Post:=by
 have hx:=hx w.heap.size
 rw[ho,Option.bind_some]at hx
 unfold newOfT at hx
 simp only at hx
 split at hx
 ·rename_i A' ty' k' hg hav hev
  split at hx
  ·rename_i v hv
   simp only[Option.map_some,Option.some.injEq,Prod.mk.injEq]at hx
   obtain⟨rfl,rfl,rfl,hd⟩:=hx
   simp only[Bool.or_eq_false_iff]at hav
   have hH:Holds ρ (lift l):=fun q x hq=>by
    rw[lookup_lift]at hq
    cases h2:l.lookup q with
    | none=>simp[h2]at hq
    | some u =>
     simp only[h2,Option.map_some,Option.some.injEq]at hq
     subst hq
     rw[hl q u h2]; rfl
   have hc:execOp ρ o=execOp (rdD (lift l) []) o:=by
    refine execOp_congr o (fun cs b e1=>by rw[e1]at hav; cases hav.1) fun x hx=>?_
    have h2:=hav.2
    simp only[Bool.not_eq_false',Array.all_eq_true']at h2
    obtain⟨z,hz⟩:=Option.isSome_iff_exists.1 (h2 x hx)
    rw[rd_ok hs (rd_all hH o x hx) (p:=[]) rfl hz]
    simp[rdD,hz]
   have hv':ev0 P k'=some (.value (shV Option.none w.heap.size)):=by
    unfold ofNext at hv
    split at hv
    ·rename_i h; obtain h2:=Option.some.inj hv; rw[h]; simp only[Res.val.injEq]at h2; rw[h2]
    ·cases hv
    ·cases hv
   have hrun:(execOp ρ o).run P w = .ok (.value (shV Option.none w.heap.size)) (w.alloc (.cells A'.toArray ty')):=by rw[hc,evNew_run hev,ev0_run hv']
   unfold Does
   rw[hrun]
   exact hT _ _ (Nat.le_refl _) (by unfold World.alloc; exact Array.getElem?_push_size) (bx_new _ _ _) (below_alloc _ _)
  ·simp at hx
 ·simp at hx
end Go.Proofs.YtfmkkemfhjkajaaGreatDoor
end
