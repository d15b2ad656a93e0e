/- The card of HistoryCompactSaved: the law returns true -/
import Derived.Test.YtodpgjjgaddkeaaGreatDoorCards
import Derived.Test.YtodpgjjgaddkeaaGreatDoorTie
import Derived.Test.YtodpgjjgaddkeaaGreatDoorPk23
import Derived.LaidMore
import Derived.LaidHandle
import Derived.Lay
import Derived.SevenTiedAt
import Derived.Stop.Joined
namespace Go.Proofs.YtodpgjjgaddkeaaGreatDoor.historyCompactSavedDone
open Go.ChangeShapes Go.WideShapes Go.ChangeAt Go.RowKit Go.Proofs.Vy
set_option linter.unusedVariables false
set_option linter.unusedSimpArgs false
theorem own:ownKnob Tryz.prog.godebug=none:=by kernel_rfl
theorem laidOut:laidOutB Tryz.prog=true:=by kernel_rfl
def uQ:List (String×DataW Unit):=[("unicode/utf8.acceptRanges",Rows.laid_unicode_utf8_acceptRanges),("unicode/utf8.first",Rows.laid_unicode_utf8_first)]
noncomputable def apn(os:Os):World:=(World.holding Tryz.prog os ⟨#[],#[],[]⟩).setCell ⟨0,0,none⟩ (.iface 296 (.agg #[.q Tryz.prog.globals.size 210]))
noncomputable def wit(os:Os):World:=(apn os).layVars Tryz.prog uQ
theorem alL(os:Os):(wit os).os=os:=(World.layVars_os _ _ _).trans X
theorem abl(os:Os)(args:Array Value):laidMet Tryz.prog uQ ((wit os).forCall (λ_ _=>0) ⟨#[],args,[]⟩).memory:=by
 have e1:(uQ.filter λx=>(uQ.map (·.1)).contains x.1)=uQ:=List.filter_eq_self.2 λx hx=>aFZ.2 (aDJ.2 ⟨x,hx,I⟩);have e2:(uQ.filter λx => !(uQ.map (·.1)).contains x.1)=[]:=List.filter_eq_nil_iff.2 λx hx=>by rw[aFZ.2 (aDJ.2 ⟨x,hx,I⟩)]; simp
 exact(laidMet_layVars (w0:=apn os) (w':=wit os) (uQ.map (·.1)) [] (by rw[e1]; rfl) (by rw[e1]; kernel_rfl) (by rw[e1]; kernel_rfl) (by rw[e2]; exact LaidIn.none)).of_heap (by simp[World.memory,World.forCall,Input.heap])
theorem ad6(os:Os)(args:Array Value):laidMetH Tryz.prog Rows.historyCompactSavedRow.laid ((wit os).forCall (λ_ _=>0) ⟨#[],args,[]⟩).memory:=
 laidMetH_of_parts ((show(Rows.historyCompactSavedRow.laid.filter λx=>x.2.handleName?.isNone)=uQ by kernel_rfl)▸abl os args) X
set_option maxRecDepth 100000 in
theorem lifted(os:Os)(started:os.Started)(H:Type)(enc:TypeId×Value->H) :
  ReturnsInHanded {} Tryz.checked os 7 .any (λw args=>(Rows.historyCompactSavedSpec.pre enc Tryz.prog Tryz.f7 Rows.historyCompactSavedRow.domain false w args∧laidMetH Tryz.prog Rows.historyCompactSavedRow.laid w)∧sizedMet enc Tryz.prog Tryz.f7 (OpenSpec.ofChange Rows.historyCompactSavedSpec) false w args)
   (Rows.historyCompactSavedSpec.post enc Tryz.prog Tryz.f7 false true false false):=by
 refine returnsInHanded_of_change_and (C:=Tryz.checked) (X:=λw _=>laidMetH Tryz.prog Rows.historyCompactSavedRow.laid w) (λ_ _ _ hh h=>h.of_heap hh) own started X Tryz.func7
  (ChangeSpec.witness_shaped (enc:=enc) (C:=Tryz.checked) (os:=os) (X:=λw _=>laidMetH Tryz.prog Rows.historyCompactSavedRow.laid w) false (wit os) #[aA.zero.v,(.sn)] 12 (alL os)
   (World.shaped_of_ZipB X X) X X X (ad6 os _)) ?_
 intro W base args ds gs before hval0 hW hcnd _ hlaid _;have hg:bT W:=ad7 hlaid.2;have hval:∀(j:Nat) t v,Tryz.f7.params[j]?=some t->args[j]?=some v->Value.okWide Tryz.prog W .any base t v:=hval0;have hW':=hW;obtain⟨p,q,hA0,hV,rfl,hfz,hnd⟩:=hW;have hA:DataW.TrodAll enc Tryz.prog W 0 (λ_=>true) true Tryz.f7.params.toList args.toList ds p:=hA0;rw[Tryz.params7]at hA hval;obtain⟨v0,vs0,d0,ds0,p0,q0,hargs,rfl,rfl,h0,r0⟩:=trodAll_cons hA;obtain⟨v1,vs1,d1,ds1,p1,q1,rfl,rfl,rfl,h1,r1⟩:=trodAll_cons r0;obtain⟨rfl,rfl,rfl⟩:=trodAll_nil r1;obtain rfl:args = #[v0,v1]:=by cases args; simp_all
 obtain⟨rfl,rfl⟩:=trodVars_none hV;have k0:=h0;have lt0:∀x∈p0,x.block<W.heap.size:=by obtain⟨m,hm⟩:=k0; exact DataW.trod_lt m _ _ _ hm
 obtain⟨m0,rfl,w0⟩:=WY (hval 0 65 v0 I I) h0;have k1:=h1;have lt1:∀x∈p1,x.block<W.heap.size:=by obtain⟨m,hm⟩:=k1; exact DataW.trod_lt m _ _ _ hm
 obtain⟨m1,rfl,w1⟩:=WZ (hval 1 70 v1 I I) h1;clear hA0 hval0;have hwalk:=tN w0 w1.1 w1.2 hg;refine hwalk.mono λe W' ⟨he,bel⟩=>?_;subst he;exact⟨_,I,_,_,_,[],_,[],hW',trodAll_mk1 (shut_bool Tryz.underlying4 _),(trodAll_cons_mk (Below.trod laidOut X (aDw X) k0 bel lt0) (trodAll_cons_mk (Below.trod laidOut X (aDw X) k1 bel lt1) trodAll_mk0)),I,bel.frame _,λh=>by cases h⟩
theorem c1:laidOutB Tryz.pinned.checked.prog=true:=by kernel_rfl
theorem c2:(Rows.historyCompactSavedRow.inPlace==Tryz.pinned.checked.prog.inPlace 7)=true:=by kernel_rfl
theorem c3:(Rows.historyCompactSavedRow.unfollowed==Tryz.pinned.checked.prog.unfollowed 7)=true:=by kernel_rfl
theorem c4:(Rows.historyCompactSavedRow.recurses==Tryz.pinned.checked.prog.recurses 7)=true:=by kernel_rfl
theorem c5:(Rows.historyCompactSavedRow.named==Tryz.pinned.checked.prog.varsNamed 7)=true:=by kernel_rfl
theorem c6:(Rows.historyCompactSavedRow.loops==(Tryz.f7.params.toList++Rows.historyCompactSavedSpec.plain.varTypes Tryz.pinned.checked.prog).any (Tryz.pinned.checked.prog.loopsFrom ·))=true:=by kernel_rfl
theorem c7:Tryz.pinned.checked.prog.stopsHeard=true:=by kernel_rfl
theorem c8:Tryz.pinned.checked.prog.mayEnter=true:=by kernel_rfl
theorem c9:(Rows.historyCompactSavedRow.lifted==Tryz.pinned.checked.prog.liftsFinal)=true:=by kernel_rfl
theorem c10:(Tryz.pinned.checked.prog.make==some Rows.historyCompactSavedRow.make)=true:=by kernel_rfl
theorem closed:joinedFacts Tryz.pinned.checked.prog 7 Tryz.f7 Rows.historyCompactSavedSpec Rows.historyCompactSavedRow=true:=by
 unfold joinedFacts;rw[c1,c2,c3,c4,c5,c6,c7,c8,c9,c10];kernel_rfl
theorem said:Rows.HistoryCompactSavedSaid:=
 OpenClaim.holds_of_wide 7 Tryz.f7 I I I I I I I ⟨I,I,I,I,I⟩ I I I I I X Tryz.func7 closed
  (aDw X) (by unfold Func.isWrapper; first | (rw[aDb (by decide +kernel)]; kernel_rfl) | (rw[aC9 (by decide +kernel)]; exact⟨I,I⟩))
  (λos started H enc _=>lifted os started H enc)
theorem plain(f:FuncId)(fn:Func)(hf:Tryz.pinned.checked.prog.funcNamed "grisaille/grisaillelaw50.HistoryCompactSaved" = some f)(hfn:Tryz.pinned.checked.prog.funcs[f]?=some fn) :
  true=Tryz.pinned.checked.prog.looks []∧∀(j:Nat) t,fn.params[j]?=some t->Tryz.pinned.checked.prog.wantsStandIn t=false:=by
 obtain rfl:f=7:=aDo ((show Tryz.prog.funcNamed "grisaille/grisaillelaw50.HistoryCompactSaved" = some 7 by kernel_rfl).symm.trans hf) |>.symm;obtain rfl:fn=Tryz.f7:=(aDo (Tryz.func7.symm.trans hfn)).symm;refine⟨by kernel_rfl,λj t ht=>?_⟩;rw[Tryz.params7]at ht;have hm:t∈[65,70]:=by simpa using Array.mem_of_getElem? ht
 have hall:([65,70].all λu => !Tryz.prog.wantsStandIn u)=true:=by kernel_rfl
 have:=aDF.1 hall t hm;have h2:Tryz.prog.wantsStandIn t=false:=by simpa using this
 exact h2
theorem proved:Rows.HistoryCompactSavedCardSaid:=
 Claim7.holds_tied_plain_at .later [] _ _ _ _ said (λ_ h=>by cases h) (by as_aux_lemma=>kernel_rfl) (λ_ h=>by cases h) historyCompactSaved_row_tie I ⟨I,I⟩ (by as_aux_lemma=>kernel_rfl) I plain (by as_aux_lemma=>kernel_rfl)
#print axioms proved
