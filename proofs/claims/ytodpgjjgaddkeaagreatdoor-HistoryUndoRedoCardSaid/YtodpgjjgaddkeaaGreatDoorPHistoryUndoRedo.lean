/- The card of HistoryUndoRedo: the law returns true for -/
import Derived.Test.YtodpgjjgaddkeaaGreatDoorCards
import Derived.Test.YtodpgjjgaddkeaaGreatDoorTie
import Derived.Test.YtodpgjjgaddkeaaGreatDoorPk23
import Derived.LaidMore
import Derived.LaidHandle
import Derived.Lay
import Derived.SevenTiedAt
import Derived.Stop.Joined
namespace Go.Proofs.YtodpgjjgaddkeaaGreatDoor.historyUndoRedoDone
open Go.ChangeShapes Go.WideShapes Go.ChangeAt Go.RowKit Go.Proofs.Pv
set_option linter.unusedVariables false
set_option linter.unusedSimpArgs false
theorem own:ownKnob Tryz.prog.godebug=none:=by kernel_rfl
theorem laidOut:laidOutB Tryz.prog=true:=by kernel_rfl
def uP:List (String×DataW Unit):=[("unicode/utf8.acceptRanges",Rows.laid_unicode_utf8_acceptRanges),("unicode/utf8.first",Rows.laid_unicode_utf8_first)]
noncomputable def amO(os:Os):World:=(World.holding Tryz.prog os ⟨#[],#[],[]⟩).setCell ⟨0,0,none⟩ (.iface 296 (.agg #[.q Tryz.prog.globals.size 210]))
noncomputable def wit(os:Os):World:=(amO os).layVars Tryz.prog uP
theorem ajx(os:Os):(wit os).os=os:=(World.layVars_os _ _ _).trans X
theorem ZL(os:Os)(args:Array Value):laidMet Tryz.prog uP ((wit os).forCall (λ_ _=>0) ⟨#[],args,[]⟩).memory:=by
 have e1:(uP.filter λx=>(uP.map (·.1)).contains x.1)=uP:=List.filter_eq_self.2 λx hx=>ayZ.2 (Ć.2 ⟨x,hx,I⟩);have e2:(uP.filter λx => !(uP.map (·.1)).contains x.1)=[]:=List.filter_eq_nil_iff.2 λx hx=>by rw[ayZ.2 (Ć.2 ⟨x,hx,I⟩)]; simp
 exact(laidMet_layVars (w0:=amO os) (w':=wit os) (uP.map (·.1)) [] (by rw[e1]; rfl) (by rw[e1]; kernel_rfl) (by rw[e1]; kernel_rfl) (by rw[e2]; exact LaidIn.none)).of_heap (by simp[World.memory,World.forCall,Input.heap])
theorem acf(os:Os)(args:Array Value):laidMetH Tryz.prog Rows.historyUndoRedoRow.laid ((wit os).forCall (λ_ _=>0) ⟨#[],args,[]⟩).memory:=
 laidMetH_of_parts ((show(Rows.historyUndoRedoRow.laid.filter λx=>x.2.handleName?.isNone)=uP by kernel_rfl)▸ZL os args) X
set_option maxRecDepth 100000 in
theorem lifted(os:Os)(started:os.Started)(H:Type)(enc:TypeId×Value->H) :
  ReturnsInHanded {} Tryz.checked os 4 .any (λw args=>(Rows.historyUndoRedoSpec.pre enc Tryz.prog Tryz.f4 Rows.historyUndoRedoRow.domain false w args∧laidMetH Tryz.prog Rows.historyUndoRedoRow.laid w)∧sizedMet enc Tryz.prog Tryz.f4 (OpenSpec.ofChange Rows.historyUndoRedoSpec) false w args)
   (Rows.historyUndoRedoSpec.post enc Tryz.prog Tryz.f4 false true false false):=by
 refine returnsInHanded_of_change_and (C:=Tryz.checked) (X:=λw _=>laidMetH Tryz.prog Rows.historyUndoRedoRow.laid w) (λ_ _ _ hh h=>h.of_heap hh) own started X Tryz.func4
  (ChangeSpec.witness_shaped (enc:=enc) (C:=Tryz.checked) (os:=os) (X:=λw _=>laidMetH Tryz.prog Rows.historyUndoRedoRow.laid w) false (wit os) #[aA.zero.v,(.sn)] 12 (ajx os)
   (World.shaped_of_ZipB X X) X X X (acf os _)) ?_
 intro W base args ds gs before hval0 hW hcnd hwt hlaid _;have hg:bZ W:=acg hlaid.2;have hval:∀(j:Nat) t v,Tryz.f4.params[j]?=some t->args[j]?=some v->Value.okWide Tryz.prog W .any base t v:=hval0;have hW':=hW;obtain⟨p,q,hA0,hV,rfl,hfz,hnd⟩:=hW;have hA:DataW.TrodAll enc Tryz.prog W 0 (λ_=>true) true Tryz.f4.params.toList args.toList ds p:=hA0;rw[Tryz.params4]at hA hval;obtain⟨v0,vs0,d0,ds0,p0,q0,hargs,rfl,rfl,h0,r0⟩:=trodAll_cons hA;obtain⟨v1,vs1,d1,ds1,p1,q1,rfl,rfl,rfl,h1,r1⟩:=trodAll_cons r0;obtain⟨rfl,rfl,rfl⟩:=trodAll_nil r1;obtain rfl:args = #[v0,v1]:=by cases args; simp_all
 obtain⟨rfl,rfl⟩:=trodVars_none hV;have hwt:=λx hx=>å (ø.1 hwt x hx);rw[Tryz.params4]at hwt;obtain⟨z0,hwt⟩:=Yb hwt;obtain⟨z1,hwt⟩:=Yb hwt;have k0:=h0;have lt0:∀x∈p0,x.block<W.heap.size:=by obtain⟨m,hm⟩:=k0; exact DataW.trod_lt m _ _ _ hm
 obtain⟨m0,rfl,w0⟩:=ajy z0 h0 Tryz.underlying65 (hval 0 65 v0 I I) λcs h=>ach h;have k1:=h1;have lt1:∀x∈p1,x.block<W.heap.size:=by obtain⟨m,hm⟩:=k1; exact DataW.trod_lt m _ _ _ hm
 obtain⟨a1,e1,m1,rfl,w1,x1,b1⟩:=aci z1 h1 (hval 1 70 v1 I I);clear hA0 hval0;have hwalk:=y8 w0.1 w1 x1 hg;refine hwalk.mono λe W' ⟨he,bel⟩=>?_;subst he;exact⟨_,I,_,_,_,[],_,[],hW',trodAll_mk1 (shut_bool Tryz.underlying4 _),(trodAll_cons_mk (Below.trod laidOut X (å X) k0 bel lt0) (trodAll_cons_mk (Below.trod laidOut X (å X) k1 bel lt1) trodAll_mk0)),I,bel.frame _,λh=>by cases h⟩
theorem c1:laidOutB Tryz.pinned.checked.prog=true:=by kernel_rfl
theorem c2:(Rows.historyUndoRedoRow.inPlace==Tryz.pinned.checked.prog.inPlace 4)=true:=by kernel_rfl
theorem c3:(Rows.historyUndoRedoRow.unfollowed==Tryz.pinned.checked.prog.unfollowed 4)=true:=by kernel_rfl
theorem c4:(Rows.historyUndoRedoRow.recurses==Tryz.pinned.checked.prog.recurses 4)=true:=by kernel_rfl
theorem c5:(Rows.historyUndoRedoRow.named==Tryz.pinned.checked.prog.varsNamed 4)=true:=by kernel_rfl
theorem c6:(Rows.historyUndoRedoRow.loops==(Tryz.f4.params.toList++Rows.historyUndoRedoSpec.plain.varTypes Tryz.pinned.checked.prog).any (Tryz.pinned.checked.prog.loopsFrom ·))=true:=by kernel_rfl
theorem c7:Tryz.pinned.checked.prog.stopsHeard=true:=by kernel_rfl
theorem c8:Tryz.pinned.checked.prog.mayEnter=true:=by kernel_rfl
theorem c9:(Rows.historyUndoRedoRow.lifted==Tryz.pinned.checked.prog.liftsFinal)=true:=by kernel_rfl
theorem c10:(Tryz.pinned.checked.prog.make==some Rows.historyUndoRedoRow.make)=true:=by kernel_rfl
theorem closed:joinedFacts Tryz.pinned.checked.prog 4 Tryz.f4 Rows.historyUndoRedoSpec Rows.historyUndoRedoRow=true:=by
 unfold joinedFacts;rw[c1,c2,c3,c4,c5,c6,c7,c8,c9,c10];kernel_rfl
theorem said:Rows.HistoryUndoRedoSaid:=
 OpenClaim.holds_of_wide 4 Tryz.f4 I I I I I I I ⟨I,I,I,I,I⟩ I I I I I X Tryz.func4 closed
  (å X) (by unfold Func.isWrapper; first | (rw[Ï (by decide +kernel)]; kernel_rfl) | (rw[É (by decide +kernel)]; exact⟨I,I⟩))
  (λos started H enc _=>lifted os started H enc)
theorem plain(f:FuncId)(fn:Func)(hf:Tryz.pinned.checked.prog.funcNamed "grisaille/grisaillelaw50.HistoryUndoRedo" = some f)(hfn:Tryz.pinned.checked.prog.funcs[f]?=some fn) :
  true=Tryz.pinned.checked.prog.looks []∧∀(j:Nat) t,fn.params[j]?=some t->Tryz.pinned.checked.prog.wantsStandIn t=false:=by
 obtain rfl:f=4:=Ü ((show Tryz.prog.funcNamed "grisaille/grisaillelaw50.HistoryUndoRedo" = some 4 by kernel_rfl).symm.trans hf) |>.symm;obtain rfl:fn=Tryz.f4:=(Ü (Tryz.func4.symm.trans hfn)).symm;refine⟨by kernel_rfl,λj t ht=>?_⟩;rw[Tryz.params4]at ht;have hm:t∈[65,70]:=by simpa using Array.mem_of_getElem? ht
 have hall:([65,70].all λu => !Tryz.prog.wantsStandIn u)=true:=by kernel_rfl
 have:=ø.1 hall t hm;have h2:Tryz.prog.wantsStandIn t=false:=by simpa using this
 exact h2
theorem proved:Rows.HistoryUndoRedoCardSaid:=
 Claim7.holds_tied_plain_at .later [] _ _ _ _ said (λ_ h=>by cases h) (by as_aux_lemma=>kernel_rfl) (λ_ h=>by cases h) historyUndoRedo_row_tie I ⟨I,I⟩ (by as_aux_lemma=>kernel_rfl) I plain (by as_aux_lemma=>kernel_rfl)
#print axioms proved
