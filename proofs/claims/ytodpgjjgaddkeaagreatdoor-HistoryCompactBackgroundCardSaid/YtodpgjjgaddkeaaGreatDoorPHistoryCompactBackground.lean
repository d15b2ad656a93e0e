/- The card of HistoryCompactBackground: the law returns -/
import Derived.Test.YtodpgjjgaddkeaaGreatDoorCards
import Derived.Test.YtodpgjjgaddkeaaGreatDoorTie
import Derived.Test.YtodpgjjgaddkeaaGreatDoorPk39
import Derived.LaidMore
import Derived.LaidHandle
import Derived.Lay
import Derived.SevenTiedAt
import Derived.Stop.Joined
namespace Go.Proofs.YtodpgjjgaddkeaaGreatDoor.historyCompactBackgroundDone
open Go.ChangeShapes Go.WideShapes Go.ChangeAt Go.RowKit
set_option linter.unusedVariables false
set_option linter.unusedSimpArgs false
theorem own:ownKnob Tryz.prog.godebug=none:=by kernel_rfl
theorem laidOut:laidOutB Tryz.prog=true:=by kernel_rfl
def uH:List (String×DataW Unit):=[("unicode/utf8.acceptRanges",Rows.laid_unicode_utf8_acceptRanges),("unicode/utf8.first",Rows.laid_unicode_utf8_first)]
noncomputable def amN(os:Os):World:=(World.holding Tryz.prog os ⟨#[],#[],[]⟩).setCell ⟨0,0,none⟩ (.iface 296 (.agg #[.q Tryz.prog.globals.size 210]))
noncomputable def wit(os:Os):World:=(amN os).layVars Tryz.prog uH
theorem ajz(os:Os):(wit os).os=os:=(World.layVars_os _ _ _).trans X
theorem aac(os:Os)(args:Array Value):laidMet Tryz.prog uH ((wit os).forCall (λ_ _=>0) ⟨#[],args,[]⟩).memory:=by
 have e1:(uH.filter λx=>(uH.map (·.1)).contains x.1)=uH:=List.filter_eq_self.2 λx hx=>List.contains_iff_mem.2 (aAi.2 ⟨x,hx,I⟩);have e2:(uH.filter λx => !(uH.map (·.1)).contains x.1)=[]:=List.filter_eq_nil_iff.2 λx hx=>by rw[List.contains_iff_mem.2 (aAi.2 ⟨x,hx,I⟩)]; simp
 exact(laidMet_layVars (w0:=amN os) (w':=wit os) (uH.map (·.1)) [] (by rw[e1]; rfl) (by rw[e1]; kernel_rfl) (by rw[e1]; kernel_rfl) (by rw[e2]; exact LaidIn.none)).of_heap (by simp[World.memory,World.forCall,Input.heap])
theorem acw(os:Os)(args:Array Value):laidMetH Tryz.prog Rows.historyCompactBackgroundRow.laid ((wit os).forCall (λ_ _=>0) ⟨#[],args,[]⟩).memory:=
 laidMetH_of_parts ((show(Rows.historyCompactBackgroundRow.laid.filter λx=>x.2.handleName?.isNone)=uH by kernel_rfl)▸aac os args) X
set_option maxRecDepth 100000 in
theorem lifted(os:Os)(started:os.Started)(H:Type)(enc:TypeId×Value->H) :
  ReturnsInHanded {} Tryz.checked os 8 .any (λw args=>(Rows.historyCompactBackgroundSpec.pre enc Tryz.prog Tryz.f8 Rows.historyCompactBackgroundRow.domain false w args∧laidMetH Tryz.prog Rows.historyCompactBackgroundRow.laid w)∧sizedMet enc Tryz.prog Tryz.f8 (OpenSpec.ofChange Rows.historyCompactBackgroundSpec) false w args)
   (Rows.historyCompactBackgroundSpec.post enc Tryz.prog Tryz.f8 false true false false):=by
 refine returnsInHanded_of_change_and (C:=Tryz.checked) (X:=λw _=>laidMetH Tryz.prog Rows.historyCompactBackgroundRow.laid w) (λ_ _ _ hh h=>h.of_heap hh) own started X Tryz.func8
  (ChangeSpec.witness_shaped (enc:=enc) (C:=Tryz.checked) (os:=os) (X:=λw _=>laidMetH Tryz.prog Rows.historyCompactBackgroundRow.laid w) false (wit os) #[.u 0,.u 0,(.agg bD.none.cells.toArray)] 12 (ajz os)
   (World.shaped_of_ZipB X X) X X X (acw os _)) ?_
 intro W base args ds gs before hval0 hW hcnd _ hlaid _;have hg:dw W:=acy hlaid.2;have hval:∀(j:Nat) t v,Tryz.f8.params[j]?=some t->args[j]?=some v->Value.okWide Tryz.prog W .any base t v:=hval0;have hW':=hW;obtain⟨p,q,hA0,hV,rfl,hfz,hnd⟩:=hW;have hA:DataW.TrodAll enc Tryz.prog W 0 (λ_=>true) true Tryz.f8.params.toList args.toList ds p:=hA0;rw[Tryz.params8]at hA hval;obtain⟨v0,vs0,d0,ds0,p0,q0,hargs,rfl,rfl,h0,r0⟩:=trodAll_cons hA;obtain⟨v1,vs1,d1,ds1,p1,q1,rfl,rfl,rfl,h1,r1⟩:=trodAll_cons r0;obtain⟨v2,vs2,d2,ds2,p2,q2,rfl,rfl,rfl,h2,r2⟩:=trodAll_cons r1;obtain⟨rfl,rfl,rfl⟩:=trodAll_nil r2;obtain rfl:args = #[v0,v1,v2]:=by cases args; simp_all
 obtain⟨rfl,rfl⟩:=trodVars_none hV;obtain⟨n0,rfl,rfl,rfl,w0⟩:=open_int Tryz.underlying5 (hval 0 5 v0 I I) h0;obtain⟨n1,rfl,rfl,rfl,w1⟩:=open_int Tryz.underlying5 (hval 1 5 v1 I I) h1;have k2:=h2;have lt2:∀x∈p2,x.block<W.heap.size:=by obtain⟨m,hm⟩:=k2; exact DataW.trod_lt m _ _ _ hm
 obtain⟨m2,rfl,w2⟩:=aad (hval 2 40 v2 I I);clear hA0 hval0;obtain⟨a0,ha0⟩:=acz w0;obtain rfl:n0=(a0.toNat:Int):=by unfold fZ at ha0; injection ha0
 obtain⟨a1,ha1⟩:=acz w1;obtain rfl:n1=(a1.toNat:Int):=by unfold fZ at ha1; injection ha1
 have hwalk:=oU (a:=a0) (b:=a1) (c:=m2) G G w2 hg;refine hwalk.mono λe W' ⟨he,bel⟩=>?_;subst he;exact⟨_,I,_,_,_,[],_,[],hW',trodAll_mk1 (shut_bool Tryz.underlying4 _),(trodAll_cons_mk (shut_int Tryz.underlying5 w0) (trodAll_cons_mk (shut_int Tryz.underlying5 w1) (trodAll_cons_mk (Below.trod laidOut X (az9 X) k2 bel lt2) trodAll_mk0))),I,bel.frame _,λh=>by cases h⟩
theorem c1:laidOutB Tryz.pinned.checked.prog=true:=by kernel_rfl
theorem c2:(Rows.historyCompactBackgroundRow.inPlace==Tryz.pinned.checked.prog.inPlace 8)=true:=by kernel_rfl
theorem c3:(Rows.historyCompactBackgroundRow.unfollowed==Tryz.pinned.checked.prog.unfollowed 8)=true:=by kernel_rfl
theorem c4:(Rows.historyCompactBackgroundRow.recurses==Tryz.pinned.checked.prog.recurses 8)=true:=by kernel_rfl
theorem c5:(Rows.historyCompactBackgroundRow.named==Tryz.pinned.checked.prog.varsNamed 8)=true:=by kernel_rfl
theorem c6:(Rows.historyCompactBackgroundRow.loops==(Tryz.f8.params.toList++Rows.historyCompactBackgroundSpec.plain.varTypes Tryz.pinned.checked.prog).any (Tryz.pinned.checked.prog.loopsFrom ·))=true:=by kernel_rfl
theorem c7:Tryz.pinned.checked.prog.stopsHeard=true:=by kernel_rfl
theorem c8:Tryz.pinned.checked.prog.mayEnter=true:=by kernel_rfl
theorem c9:(Rows.historyCompactBackgroundRow.lifted==Tryz.pinned.checked.prog.liftsFinal)=true:=by kernel_rfl
theorem c10:(Tryz.pinned.checked.prog.make==some Rows.historyCompactBackgroundRow.make)=true:=by kernel_rfl
theorem closed:joinedFacts Tryz.pinned.checked.prog 8 Tryz.f8 Rows.historyCompactBackgroundSpec Rows.historyCompactBackgroundRow=true:=by
 unfold joinedFacts;rw[c1,c2,c3,c4,c5,c6,c7,c8,c9,c10];kernel_rfl
theorem said:Rows.HistoryCompactBackgroundSaid:=
 OpenClaim.holds_of_wide 8 Tryz.f8 I I I I I I I ⟨I,I,I,I,I⟩ I I I I I X Tryz.func8 closed
  (az9 X) (by unfold Func.isWrapper; first | (rw[azQ (by decide +kernel)]; kernel_rfl) | (rw[azP (by decide +kernel)]; exact⟨I,I⟩))
  (λos started H enc _=>lifted os started H enc)
theorem plain(f:FuncId)(fn:Func)(hf:Tryz.pinned.checked.prog.funcNamed "grisaille/grisaillelaw50.HistoryCompactBackground" = some f)(hfn:Tryz.pinned.checked.prog.funcs[f]?=some fn) :
  true=Tryz.pinned.checked.prog.looks []∧∀(j:Nat) t,fn.params[j]?=some t->Tryz.pinned.checked.prog.wantsStandIn t=false:=by
 obtain rfl:f=8:=az1 ((show Tryz.prog.funcNamed "grisaille/grisaillelaw50.HistoryCompactBackground" = some 8 by kernel_rfl).symm.trans hf) |>.symm;obtain rfl:fn=Tryz.f8:=(az1 (Tryz.func8.symm.trans hfn)).symm;refine⟨by kernel_rfl,λj t ht=>?_⟩;rw[Tryz.params8]at ht;have hm:t∈[5,5,40]:=by simpa using Array.mem_of_getElem? ht
 have hall:([5,5,40].all λu => !Tryz.prog.wantsStandIn u)=true:=by kernel_rfl
 have:=aAr.1 hall t hm;have h2:Tryz.prog.wantsStandIn t=false:=by simpa using this
 exact h2
theorem proved:Rows.HistoryCompactBackgroundCardSaid:=
 Claim7.holds_tied_plain_at .later [] _ _ _ _ said (λ_ h=>by cases h) (by as_aux_lemma=>kernel_rfl) (λ_ h=>by cases h) historyCompactBackground_row_tie I ⟨I,I⟩ (by as_aux_lemma=>kernel_rfl) I plain (by as_aux_lemma=>kernel_rfl)
#print axioms proved
