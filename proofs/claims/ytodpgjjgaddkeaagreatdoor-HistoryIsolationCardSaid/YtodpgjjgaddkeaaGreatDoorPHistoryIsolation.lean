/- The card of HistoryIsolation: the law returns true for -/
import Derived.Test.YtodpgjjgaddkeaaGreatDoorCards
import Derived.Test.YtodpgjjgaddkeaaGreatDoorTie
import Derived.Test.YtodpgjjgaddkeaaGreatDoorPk23
import Derived.LaidMore
import Derived.LaidHandle
import Derived.Lay
import Derived.SevenTiedAt
import Derived.Stop.Joined
namespace Go.Proofs.YtodpgjjgaddkeaaGreatDoor.historyIsolationDone
open Go.ChangeShapes Go.WideShapes Go.ChangeAt Go.RowKit Go.Proofs.Õ
set_option linter.unusedVariables false
set_option linter.unusedSimpArgs false
theorem own:ownKnob Tryz.prog.godebug=none:=by kernel_rfl
theorem laidOut:laidOutB Tryz.prog=true:=by kernel_rfl
def uZ:List (String×DataW Unit):=[("unicode/utf8.acceptRanges",Rows.laid_unicode_utf8_acceptRanges),("unicode/utf8.first",Rows.laid_unicode_utf8_first)]
noncomputable def apz(os:Os):World:=(World.holding Tryz.prog os ⟨#[],#[],[]⟩).setCell ⟨0,0,none⟩ (.iface 296 (.agg #[.q Tryz.prog.globals.size 210]))
noncomputable def wit(os:Os):World:=(apz os).layVars Tryz.prog uZ
theorem alV(os:Os):(wit os).os=os:=(World.layVars_os _ _ _).trans X
theorem abu(os:Os)(args:Array Value):laidMet Tryz.prog uZ ((wit os).forCall (λ_ _=>0) ⟨#[],args,[]⟩).memory:=by
 have e1:(uZ.filter λx=>(uZ.map (·.1)).contains x.1)=uZ:=List.filter_eq_self.2 λx hx=>Ϸ.2 (ô.2 ⟨x,hx,I⟩);have e2:(uZ.filter λx => !(uZ.map (·.1)).contains x.1)=[]:=List.filter_eq_nil_iff.2 λx hx=>by rw[Ϸ.2 (ô.2 ⟨x,hx,I⟩)]; simp
 exact(laidMet_layVars (w0:=apz os) (w':=wit os) (uZ.map (·.1)) [] (by rw[e1]; rfl) (by rw[e1]; kernel_rfl) (by rw[e1]; kernel_rfl) (by rw[e2]; exact LaidIn.none)).of_heap (by simp[World.memory,World.forCall,Input.heap])
theorem aec(os:Os)(args:Array Value):laidMetH Tryz.prog Rows.historyIsolationRow.laid ((wit os).forCall (λ_ _=>0) ⟨#[],args,[]⟩).memory:=
 laidMetH_of_parts ((show(Rows.historyIsolationRow.laid.filter λx=>x.2.handleName?.isNone)=uZ by kernel_rfl)▸abu os args) X
set_option maxRecDepth 100000 in
theorem lifted(os:Os)(started:os.Started)(H:Type)(enc:TypeId×Value->H) :
  ReturnsInHanded {} Tryz.checked os 5 .any (λw args=>(Rows.historyIsolationSpec.pre enc Tryz.prog Tryz.f5 Rows.historyIsolationRow.domain false w args∧laidMetH Tryz.prog Rows.historyIsolationRow.laid w)∧sizedMet enc Tryz.prog Tryz.f5 (OpenSpec.ofChange Rows.historyIsolationSpec) false w args)
   (Rows.historyIsolationSpec.post enc Tryz.prog Tryz.f5 false true false false):=by
 refine returnsInHanded_of_change_and (C:=Tryz.checked) (X:=λw _=>laidMetH Tryz.prog Rows.historyIsolationRow.laid w) (λ_ _ _ hh h=>h.of_heap hh) own started X Tryz.func5
  (ChangeSpec.witness_shaped (enc:=enc) (C:=Tryz.checked) (os:=os) (X:=λw _=>laidMetH Tryz.prog Rows.historyIsolationRow.laid w) false (wit os) #[aB.zero.v,(.sn),(aQ.v ⟨0,0,0,0,bP,.none⟩)] 12 (alV os)
   (World.shaped_of_ZipB X X) X X X (aec os _)) ?_
 intro W base args ds gs before hval0 hW hcnd hwt hlaid _;have hg:bU W:=aed hlaid.2;have hval:∀(j:Nat) t v,Tryz.f5.params[j]?=some t->args[j]?=some v->Value.okWide Tryz.prog W .any base t v:=hval0;have hW':=hW;obtain⟨p,q,hA0,hV,rfl,hfz,hnd⟩:=hW;have hA:DataW.TrodAll enc Tryz.prog W 0 (λ_=>true) true Tryz.f5.params.toList args.toList ds p:=hA0;rw[Tryz.params5]at hA hval;obtain⟨v0,vs0,d0,ds0,p0,q0,hargs,rfl,rfl,h0,r0⟩:=trodAll_cons hA;obtain⟨v1,vs1,d1,ds1,p1,q1,rfl,rfl,rfl,h1,r1⟩:=trodAll_cons r0;obtain⟨v2,vs2,d2,ds2,p2,q2,rfl,rfl,rfl,h2,r2⟩:=trodAll_cons r1;obtain⟨rfl,rfl,rfl⟩:=trodAll_nil r2;obtain rfl:args = #[v0,v1,v2]:=by cases args; simp_all
 obtain⟨rfl,rfl⟩:=trodVars_none hV;have hwt:=λx hx=>Ý (ñ.1 hwt x hx);rw[Tryz.params5]at hwt;obtain⟨z0,hwt⟩:=PU hwt;obtain⟨z1,hwt⟩:=PU hwt;obtain⟨z2,hwt⟩:=PU hwt;have k0:=h0;have ϔ:∀x∈p0,x.block<W.heap.size:=by obtain⟨m,hm⟩:=k0; exact DataW.trod_lt m _ _ _ hm
 obtain⟨m0,rfl,w0⟩:=aee z0 h0 Tryz.underlying65 (hval 0 65 v0 I I) λcs h=>aef h;have k1:=h1;have lt1:∀x∈p1,x.block<W.heap.size:=by obtain⟨m,hm⟩:=k1; exact DataW.trod_lt m _ _ _ hm
 obtain⟨a1,e1,m1,rfl,w1,x1,b1⟩:=aeg z1 h1 (hval 1 70 v1 I I);have k2:=h2;have lt2:∀x∈p2,x.block<W.heap.size:=by obtain⟨m,hm⟩:=k2; exact DataW.trod_lt m _ _ _ hm
 obtain⟨m2,rfl,w2⟩:=aee z2 h2 Tryz.underlying42 (hval 2 42 v2 I I) λcs h=>ZX h;clear hA0 hval0;have hwalk:=xu w0.1 w0.2.1 w0.2.2 w1 x1 b1 w2 hg;refine hwalk.mono λe W' ⟨he,bel⟩=>?_;subst he;exact⟨_,I,_,_,_,[],_,[],hW',trodAll_mk1 (shut_bool Tryz.underlying4 _),(trodAll_cons_mk (Below.trod laidOut X (Ý X) k0 bel ϔ) (trodAll_cons_mk (Below.trod laidOut X (Ý X) k1 bel lt1) (trodAll_cons_mk (Below.trod laidOut X (Ý X) k2 bel lt2) trodAll_mk0))),I,bel.frame _,λh=>by cases h⟩
theorem c1:laidOutB Tryz.pinned.checked.prog=true:=by kernel_rfl
theorem c2:(Rows.historyIsolationRow.inPlace==Tryz.pinned.checked.prog.inPlace 5)=true:=by kernel_rfl
theorem c3:(Rows.historyIsolationRow.unfollowed==Tryz.pinned.checked.prog.unfollowed 5)=true:=by kernel_rfl
theorem c4:(Rows.historyIsolationRow.recurses==Tryz.pinned.checked.prog.recurses 5)=true:=by kernel_rfl
theorem c5:(Rows.historyIsolationRow.named==Tryz.pinned.checked.prog.varsNamed 5)=true:=by kernel_rfl
theorem c6:(Rows.historyIsolationRow.loops==(Tryz.f5.params.toList++Rows.historyIsolationSpec.plain.varTypes Tryz.pinned.checked.prog).any (Tryz.pinned.checked.prog.loopsFrom ·))=true:=by kernel_rfl
theorem c7:Tryz.pinned.checked.prog.stopsHeard=true:=by kernel_rfl
theorem c8:Tryz.pinned.checked.prog.mayEnter=true:=by kernel_rfl
theorem c9:(Rows.historyIsolationRow.lifted==Tryz.pinned.checked.prog.liftsFinal)=true:=by kernel_rfl
theorem c10:(Tryz.pinned.checked.prog.make==some Rows.historyIsolationRow.make)=true:=by kernel_rfl
theorem closed:joinedFacts Tryz.pinned.checked.prog 5 Tryz.f5 Rows.historyIsolationSpec Rows.historyIsolationRow=true:=by
 unfold joinedFacts;rw[c1,c2,c3,c4,c5,c6,c7,c8,c9,c10];kernel_rfl
theorem said:Rows.HistoryIsolationSaid:=
 OpenClaim.holds_of_wide 5 Tryz.f5 I I I I I I I ⟨I,I,I,I,I⟩ I I I I I X Tryz.func5 closed
  (Ý X) (by unfold Func.isWrapper; first | (rw[Á (by decide +kernel)]; kernel_rfl) | (rw[UQ (by decide +kernel)]; exact⟨I,I⟩))
  (λos started H enc _=>lifted os started H enc)
theorem plain(f:FuncId)(fn:Func)(hf:Tryz.pinned.checked.prog.funcNamed "grisaille/grisaillelaw50.HistoryIsolation" = some f)(hfn:Tryz.pinned.checked.prog.funcs[f]?=some fn) :
  true=Tryz.pinned.checked.prog.looks []∧∀(j:Nat) t,fn.params[j]?=some t->Tryz.pinned.checked.prog.wantsStandIn t=false:=by
 obtain rfl:f=5:=Ò ((show Tryz.prog.funcNamed "grisaille/grisaillelaw50.HistoryIsolation" = some 5 by kernel_rfl).symm.trans hf) |>.symm;obtain rfl:fn=Tryz.f5:=(Ò (Tryz.func5.symm.trans hfn)).symm;refine⟨by kernel_rfl,λj t ht=>?_⟩;rw[Tryz.params5]at ht;have hm:t∈[65,70,42]:=by simpa using Array.mem_of_getElem? ht
 have hall:([65,70,42].all λu => !Tryz.prog.wantsStandIn u)=true:=by kernel_rfl
 have:=ñ.1 hall t hm;have h2:Tryz.prog.wantsStandIn t=false:=by simpa using this
 exact h2
theorem proved:Rows.HistoryIsolationCardSaid:=
 Claim7.holds_tied_plain_at .later [] _ _ _ _ said (λ_ h=>by cases h) (by as_aux_lemma=>kernel_rfl) (λ_ h=>by cases h) historyIsolation_row_tie I ⟨I,I⟩ (by as_aux_lemma=>kernel_rfl) I plain (by as_aux_lemma=>kernel_rfl)
#print axioms proved
