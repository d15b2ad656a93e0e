/- The card of ScenebinInjective: the law returns true for -/
import Derived.Test.YtapmgonflgahbaaGreatDoorCards
import Derived.Test.YtapmgonflgahbaaGreatDoorTie
import Derived.Test.YtapmgonflgahbaaGreatDoorLw46b
import Derived.LaidMore
import Derived.LaidHandle
import Derived.Lay
import Derived.SevenTiedAt
import Derived.Stop.Joined
namespace Go.Proofs.YtapmgonflgahbaaGreatDoor.scenebinInjectiveDone
open Go.ChangeShapes Go.WideShapes Go.ChangeAt Go.RowKit
set_option linter.unusedVariables false
theorem own:ownKnob Tryz.prog.godebug=none:=by kernel_rfl
theorem laidOut:laidOutB Tryz.prog=true:=by kernel_rfl
def jd:List (String×DataW Unit):=[("unicode/utf8.acceptRanges",Rows.laid_unicode_utf8_acceptRanges),("unicode/utf8.first",Rows.laid_unicode_utf8_first)]
noncomputable def Vh(os:Os):World:=(World.holding Tryz.prog os ⟨#[],#[],[]⟩).setCell ⟨0,0,none⟩ (.iface 292 (.agg #[.q Tryz.prog.globals.size 177]))
noncomputable def wit(os:Os):World:=(Vh os).layVars Tryz.prog jd
theorem LY(os:Os):(wit os).os=os:=(World.layVars_os _ _ _).trans (by kernel_rfl)
theorem yD(os:Os)(args:Array Value):laidMet Tryz.prog jd ((wit os).forCall (fun _ _=>0) ⟨#[],args,[]⟩).memory:=by
 have e1:(jd.filter fun x=>(jd.map (·.1)).contains x.1)=jd:=List.filter_eq_self.2 fun x hx=>List.contains_iff_mem.2 (aiR.2 ⟨x,hx,rfl⟩);have e2:(jd.filter fun x => !(jd.map (·.1)).contains x.1)=[]:=List.filter_eq_nil_iff.2 fun x hx=>by rw[List.contains_iff_mem.2 (aiR.2 ⟨x,hx,rfl⟩)]; simp
 exact(laidMet_layVars (w0:=Vh os) (w':=wit os) (jd.map (·.1)) [] (by rw[e1]; rfl) (by rw[e1]; kernel_rfl) (by rw[e1]; kernel_rfl) (by rw[e2]; exact LaidIn.none)).of_heap (by simp[World.memory,World.forCall,Input.heap])
theorem BK(os:Os)(args:Array Value):laidMetH Tryz.prog Rows.scenebinInjectiveRow.laid ((wit os).forCall (fun _ _=>0) ⟨#[],args,[]⟩).memory:=
 laidMetH_of_parts ((show(Rows.scenebinInjectiveRow.laid.filter fun x=>x.2.handleName?.isNone)=jd by kernel_rfl)▸yD os args) (by kernel_rfl)
set_option maxRecDepth 100000 in
theorem lifted(os:Os)(started:os.Started)(H:Type)(enc:TypeId×Value→H) :
  ReturnsInHanded {} Tryz.checked os 8 .any (fun w args=>(Rows.scenebinInjectiveSpec.pre enc Tryz.prog Tryz.f8 Rows.scenebinInjectiveRow.domain false w args∧laidMetH Tryz.prog Rows.scenebinInjectiveRow.laid w)∧sizedMet enc Tryz.prog Tryz.f8 (OpenSpec.ofChange Rows.scenebinInjectiveSpec) false w args)
   (Rows.scenebinInjectiveSpec.post enc Tryz.prog Tryz.f8 false true false false):=by
 refine returnsInHanded_of_change_and (C:=Tryz.checked) (X:=fun w _=>laidMetH Tryz.prog Rows.scenebinInjectiveRow.laid w) (fun _ _ _ hh h=>h.of_heap hh) own started (by kernel_rfl) Tryz.func8
  (ChangeSpec.witness_shaped (enc:=enc) (C:=Tryz.checked) (os:=os) (X:=fun w _=>laidMetH Tryz.prog Rows.scenebinInjectiveRow.laid w) false (wit os) #[bC.zero.v,bC.zero.v,rZ.v,rZ.v] 12 (LY os)
   (World.shaped_of_ZipB (by kernel_rfl) (by kernel_rfl)) (by kernel_rfl) (by kernel_rfl) (by kernel_rfl) (BK os _)) ?_
 intro W base args ds gs before hval0 hW hcnd _ hlaid _;have hg:bW W:=Jb hlaid.2;have hval:∀(j:Nat) t v,Tryz.f8.params[j]?=some t→args[j]?=some v→Value.okWide Tryz.prog W .any base t v:=hval0;have hW':=hW;obtain⟨p,q,hA0,hV,rfl,hfz,hnd⟩:=hW;have hA:DataW.TrodAll enc Tryz.prog W 0 (fun _=>true) true Tryz.f8.params.toList args.toList ds p:=hA0;rw[Tryz.params8]at hA hval;obtain⟨v0,vs0,d0,ds0,p0,q0,hargs,rfl,rfl,h0,r0⟩:=trodAll_cons hA;obtain⟨v1,vs1,d1,ds1,p1,q1,rfl,rfl,rfl,h1,r1⟩:=trodAll_cons r0;obtain⟨v2,vs2,d2,ds2,p2,q2,rfl,rfl,rfl,h2,r2⟩:=trodAll_cons r1;obtain⟨v3,vs3,d3,ds3,p3,q3,rfl,rfl,rfl,h3,r3⟩:=trodAll_cons r2;obtain⟨rfl,rfl,rfl⟩:=trodAll_nil r3;obtain rfl:args = #[v0,v1,v2,v3]:=by cases args; simp_all
 obtain⟨rfl,rfl⟩:=trodVars_none hV;have k0:=h0;have lt0:∀x∈p0,x.block<W.heap.size:=by obtain⟨m,hm⟩:=k0; exact DataW.trod_lt m _ _ _ hm
 obtain⟨m0,rfl,w0⟩:=wu (hval 0 26 v0 rfl rfl) h0;have k1:=h1;have lt1:∀x∈p1,x.block<W.heap.size:=by obtain⟨m,hm⟩:=k1; exact DataW.trod_lt m _ _ _ hm
 obtain⟨m1,rfl,w1⟩:=wu (hval 1 26 v1 rfl rfl) h1;have k2:=h2;have lt2:∀x∈p2,x.block<W.heap.size:=by obtain⟨m,hm⟩:=k2; exact DataW.trod_lt m _ _ _ hm
 obtain⟨m2,rfl,w2⟩:=open_node (hval 2 43 v2 rfl rfl) h2;have k3:=h3;have lt3:∀x∈p3,x.block<W.heap.size:=by obtain⟨m,hm⟩:=k3; exact DataW.trod_lt m _ _ _ hm
 obtain⟨m3,rfl,w3⟩:=open_node (hval 3 43 v3 rfl rfl) h3;clear hA0 hval0;have hwalk:=rW w0 w1 w2 w3 hg;refine hwalk.mono fun e W' ⟨he,bel⟩=>?_;subst he;exact⟨_,rfl,_,_,_,[],_,[],hW',trodAll_mk1 (shut_bool Tryz.underlying4 _),(trodAll_cons_mk (Below.trod laidOut (by kernel_rfl) (ain (by kernel_rfl)) k0 bel lt0) (trodAll_cons_mk (Below.trod laidOut (by kernel_rfl) (ain (by kernel_rfl)) k1 bel lt1) (trodAll_cons_mk (Below.trod laidOut (by kernel_rfl) (ain (by kernel_rfl)) k2 bel lt2) (trodAll_cons_mk (Below.trod laidOut (by kernel_rfl) (ain (by kernel_rfl)) k3 bel lt3) trodAll_mk0)))),rfl,bel.frame _,fun h=>by cases h⟩
theorem c1:laidOutB Tryz.pinned.checked.prog=true:=by kernel_rfl
theorem c2:(Rows.scenebinInjectiveRow.inPlace==Tryz.pinned.checked.prog.inPlace 8)=true:=by kernel_rfl
theorem c3:(Rows.scenebinInjectiveRow.unfollowed==Tryz.pinned.checked.prog.unfollowed 8)=true:=by kernel_rfl
theorem c4:(Rows.scenebinInjectiveRow.recurses==Tryz.pinned.checked.prog.recurses 8)=true:=by kernel_rfl
theorem c5:(Rows.scenebinInjectiveRow.named==Tryz.pinned.checked.prog.varsNamed 8)=true:=by kernel_rfl
theorem c6:(Rows.scenebinInjectiveRow.loops==(Tryz.f8.params.toList++Rows.scenebinInjectiveSpec.plain.varTypes Tryz.pinned.checked.prog).any (Tryz.pinned.checked.prog.loopsFrom ·))=true:=by kernel_rfl
theorem c7:Tryz.pinned.checked.prog.stopsHeard=true:=by kernel_rfl
theorem c8:Tryz.pinned.checked.prog.mayEnter=true:=by kernel_rfl
theorem c9:(Rows.scenebinInjectiveRow.lifted==Tryz.pinned.checked.prog.liftsFinal)=true:=by kernel_rfl
theorem c10:(Tryz.pinned.checked.prog.make==some Rows.scenebinInjectiveRow.make)=true:=by kernel_rfl
theorem closed:joinedFacts Tryz.pinned.checked.prog 8 Tryz.f8 Rows.scenebinInjectiveSpec Rows.scenebinInjectiveRow=true:=by
 unfold joinedFacts;rw[c1,c2,c3,c4,c5,c6,c7,c8,c9,c10];kernel_rfl
theorem said:Rows.ScenebinInjectiveSaid:=
 OpenClaim.holds_of_wide 8 Tryz.f8 rfl rfl rfl rfl rfl rfl rfl ⟨rfl,rfl,rfl,rfl,rfl⟩ rfl rfl rfl rfl rfl (by kernel_rfl) Tryz.func8 closed
  (ain (by kernel_rfl)) (by unfold Func.isWrapper; first | (rw[aib (by decide +kernel)]; kernel_rfl) | (rw[ah7 (by decide +kernel)]; exact⟨rfl,rfl⟩))
  (fun os started H enc _=>lifted os started H enc)
theorem plain(f:FuncId)(fn:Func)(hf:Tryz.pinned.checked.prog.funcNamed "grisaille/grisaillelaw46.ScenebinInjective" = some f)(hfn:Tryz.pinned.checked.prog.funcs[f]?=some fn) :
  true=Tryz.pinned.checked.prog.looks []∧∀(j:Nat) t,fn.params[j]?=some t→Tryz.pinned.checked.prog.wantsStandIn t=false:=by
 obtain rfl:f=8:=aik ((show Tryz.prog.funcNamed "grisaille/grisaillelaw46.ScenebinInjective" = some 8 by kernel_rfl).symm.trans hf) |>.symm;obtain rfl:fn=Tryz.f8:=(aik (Tryz.func8.symm.trans hfn)).symm;refine⟨by kernel_rfl,fun j t ht=>?_⟩;rw[Tryz.params8]at ht;have hm:t∈[26,26,43,43]:=by simpa using Array.mem_of_getElem? ht
 have hall:([26,26,43,43].all fun u => !Tryz.prog.wantsStandIn u)=true:=by kernel_rfl
 have:=aiA.1 hall t hm;have h2:Tryz.prog.wantsStandIn t=false:=by simpa using this
 exact h2
theorem proved:Rows.ScenebinInjectiveCardSaid:=
 Claim7.holds_tied_plain_at .later [] _ _ _ _ said (fun _ h=>by cases h) (by as_aux_lemma=>kernel_rfl) (fun _ h=>by cases h) scenebinInjective_row_tie rfl ⟨rfl,rfl⟩ (by as_aux_lemma=>kernel_rfl) rfl plain (by as_aux_lemma=>kernel_rfl)
#print axioms proved
end Go.Proofs.YtapmgonflgahbaaGreatDoor.scenebinInjectiveDone
