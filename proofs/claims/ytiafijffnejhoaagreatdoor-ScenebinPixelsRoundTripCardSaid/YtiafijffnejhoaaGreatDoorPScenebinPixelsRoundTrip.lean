/- The card of ScenebinPixelsRoundTrip: the law returns -/
import Derived.Test.YtiafijffnejhoaaGreatDoorRows
import Derived.Test.YtiafijffnejhoaaGreatDoorCards
import Derived.Test.YtiafijffnejhoaaGreatDoorTie
import Derived.Test.YtiafijffnejhoaaGreatDoorBase
import Derived.Test.YtiafijffnejhoaaGreatDoorPk38
import Derived.Test.YtiafijffnejhoaaGreatDoorLw46a
import Derived.LaidMore
import Derived.LaidHandle
import Derived.Lay
import Derived.SevenTiedAt
import Derived.Stop.Joined
namespace Go.Proofs.YtiafijffnejhoaaGreatDoor.scenebinPixelsRoundTripDone
open Go.ChangeShapes Go.WideShapes Go.ChangeAt Go.RowKit
set_option linter.unusedVariables false
theorem own:ownKnob Tryz.prog.godebug=none:=by kernel_rfl
theorem laidOut:laidOutB Tryz.prog=true:=by kernel_rfl
def iO:List (String×DataW Unit):=[("unicode/utf8.acceptRanges",Rows.laid_unicode_utf8_acceptRanges),("unicode/utf8.first",Rows.laid_unicode_utf8_first)]
noncomputable def Tf(os:Os):World:=(World.holding Tryz.prog os ⟨#[],#[],[]⟩).setCell ⟨0,0,none⟩ (.iface 245 (.agg #[.pointer (some ⟨Tryz.prog.globals.size,182,none⟩)]))
noncomputable def wit(os:Os):World:=(Tf os).layVars Tryz.prog iO
theorem Ko(os:Os):(wit os).os=os:=(World.layVars_os _ _ _).trans (by kernel_rfl)
theorem x9(os:Os)(args:Array Value):laidMet Tryz.prog iO ((wit os).forCall (fun _ _=>0) ⟨#[],args,[]⟩).memory:=by
 have e1:(iO.filter fun x=>(iO.map (·.1)).contains x.1)=iO:=List.filter_eq_self.2 fun x hx=>List.contains_iff_mem.2 (ahY.2 ⟨x,hx,rfl⟩);have e2:(iO.filter fun x => !(iO.map (·.1)).contains x.1)=[]:=List.filter_eq_nil_iff.2 fun x hx=>by rw[List.contains_iff_mem.2 (ahY.2 ⟨x,hx,rfl⟩)]; simp
 exact(laidMet_layVars (w0:=Tf os) (w':=wit os) (iO.map (·.1)) [] (by rw[e1]; rfl) (by rw[e1]; kernel_rfl) (by rw[e1]; kernel_rfl) (by rw[e2]; exact LaidIn.none)).of_heap (by simp[World.memory,World.forCall,Input.heap])
theorem Ar(os:Os)(args:Array Value):laidMetH Tryz.prog Rows.scenebinPixelsRoundTripRow.laid ((wit os).forCall (fun _ _=>0) ⟨#[],args,[]⟩).memory:=
 laidMetH_of_parts ((show(Rows.scenebinPixelsRoundTripRow.laid.filter fun x=>x.2.handleName?.isNone)=iO by kernel_rfl)▸x9 os args) (by kernel_rfl)
set_option maxRecDepth 100000 in
theorem lifted(os:Os)(started:os.Started)(H:Type)(enc:TypeId×Value→H) :
  ReturnsInHanded {} Tryz.checked os 4 .any (fun w args=>(Rows.scenebinPixelsRoundTripSpec.pre enc Tryz.prog Tryz.f4 Rows.scenebinPixelsRoundTripRow.domain false w args∧laidMetH Tryz.prog Rows.scenebinPixelsRoundTripRow.laid w)∧sizedMet enc Tryz.prog Tryz.f4 (OpenSpec.ofChange Rows.scenebinPixelsRoundTripSpec) false w args)
   (Rows.scenebinPixelsRoundTripSpec.post enc Tryz.prog Tryz.f4 false true false false):=by
 refine returnsInHanded_of_change_and (C:=Tryz.checked) (X:=fun w _=>laidMetH Tryz.prog Rows.scenebinPixelsRoundTripRow.laid w) (fun _ _ _ hh h=>h.of_heap hh) own started (by kernel_rfl) Tryz.func4
  (ChangeSpec.witness_shaped (enc:=enc) (C:=Tryz.checked) (os:=os) (X:=fun w _=>laidMetH Tryz.prog Rows.scenebinPixelsRoundTripRow.laid w) false (wit os) #[(.slice none 0 0),(.slice none 0 0),.int .u16 0] 12 (Ko os)
   (World.shaped_of_ZipB (by kernel_rfl) (by kernel_rfl)) (by kernel_rfl) (by kernel_rfl) (by kernel_rfl) (Ar os _)) ?_
 intro W base args ds gs before hval0 hW hcnd _ hlaid _;have hg:dV W:=Hu hlaid.2;have hval:∀(j:Nat) t v,Tryz.f4.params[j]?=some t→args[j]?=some v→Value.okWide Tryz.prog W .any base t v:=hval0;have hW':=hW;obtain⟨p,q,hA0,hV,rfl,hfz,hnd⟩:=hW;have hA:DataW.TrodAll enc Tryz.prog W 0 (fun _=>true) true Tryz.f4.params.toList args.toList ds p:=hA0;rw[Tryz.params4]at hA hval;obtain⟨v0,vs0,d0,ds0,p0,q0,hargs,rfl,rfl,h0,r0⟩:=trodAll_cons hA;obtain⟨v1,vs1,d1,ds1,p1,q1,rfl,rfl,rfl,h1,r1⟩:=trodAll_cons r0;obtain⟨v2,vs2,d2,ds2,p2,q2,rfl,rfl,rfl,h2,r2⟩:=trodAll_cons r1;obtain⟨rfl,rfl,rfl⟩:=trodAll_nil r2;obtain rfl:args = #[v0,v1,v2]:=by cases args; simp_all
 obtain⟨rfl,rfl⟩:=trodVars_none hV;have k0:=h0;have lt0:∀x∈p0,x.block<W.heap.size:=by obtain⟨m,hm⟩:=k0; exact DataW.trod_lt m _ _ _ hm
 obtain⟨m0,rfl,w0⟩:=rZ (hval 0 22 v0 rfl rfl) h0;have k1:=h1;have lt1:∀x∈p1,x.block<W.heap.size:=by obtain⟨m,hm⟩:=k1; exact DataW.trod_lt m _ _ _ hm
 obtain⟨m1,rfl,w1⟩:=rZ (hval 1 22 v1 rfl rfl) h1;obtain⟨n2,rfl,rfl,rfl,w2⟩:=open_int Tryz.underlying32 (hval 2 32 v2 rfl rfl) h2;clear hA0 hval0;have hwalk:=lX w0 w1 (bounds_u16 w2) hg;refine hwalk.mono fun e W' ⟨he,bel⟩=>?_;subst he;exact⟨_,rfl,_,_,_,[],_,[],hW',trodAll_mk1 (shut_bool Tryz.underlying4 _),(trodAll_cons_mk (Below.trod laidOut (by kernel_rfl) (aho (by kernel_rfl)) k0 bel lt0) (trodAll_cons_mk (Below.trod laidOut (by kernel_rfl) (aho (by kernel_rfl)) k1 bel lt1) (trodAll_cons_mk (shut_int Tryz.underlying32 w2) trodAll_mk0))),rfl,bel.frame _,fun h=>by cases h⟩
theorem c1:laidOutB Tryz.pinned.checked.prog=true:=by kernel_rfl
theorem c2:(Rows.scenebinPixelsRoundTripRow.inPlace==Tryz.pinned.checked.prog.inPlace 4)=true:=by kernel_rfl
theorem c3:(Rows.scenebinPixelsRoundTripRow.unfollowed==Tryz.pinned.checked.prog.unfollowed 4)=true:=by kernel_rfl
theorem c4:(Rows.scenebinPixelsRoundTripRow.recurses==Tryz.pinned.checked.prog.recurses 4)=true:=by kernel_rfl
theorem c5:(Rows.scenebinPixelsRoundTripRow.named==Tryz.pinned.checked.prog.varsNamed 4)=true:=by kernel_rfl
theorem c6:(Rows.scenebinPixelsRoundTripRow.loops==(Tryz.f4.params.toList++Rows.scenebinPixelsRoundTripSpec.plain.varTypes Tryz.pinned.checked.prog).any (Tryz.pinned.checked.prog.loopsFrom ·))=true:=by kernel_rfl
theorem c7:Tryz.pinned.checked.prog.stopsHeard=true:=by kernel_rfl
theorem c8:Tryz.pinned.checked.prog.mayEnter=true:=by kernel_rfl
theorem c9:(Rows.scenebinPixelsRoundTripRow.lifted==Tryz.pinned.checked.prog.liftsFinal)=true:=by kernel_rfl
theorem c10:(Tryz.pinned.checked.prog.make==some Rows.scenebinPixelsRoundTripRow.make)=true:=by kernel_rfl
theorem closed:joinedFacts Tryz.pinned.checked.prog 4 Tryz.f4 Rows.scenebinPixelsRoundTripSpec Rows.scenebinPixelsRoundTripRow=true:=by
 unfold joinedFacts;rw[c1,c2,c3,c4,c5,c6,c7,c8,c9,c10];kernel_rfl
theorem said:Rows.ScenebinPixelsRoundTripSaid:=
 OpenClaim.holds_of_wide 4 Tryz.f4 rfl rfl rfl rfl rfl rfl rfl ⟨rfl,rfl,rfl,rfl,rfl⟩ rfl rfl rfl rfl rfl (by kernel_rfl) Tryz.func4 closed
  (aho (by kernel_rfl)) (by unfold Func.isWrapper; first | (rw[ahf (by decide +kernel)]; kernel_rfl) | (rw[ahe (by decide +kernel)]; exact⟨rfl,rfl⟩))
  (fun os started H enc _=>lifted os started H enc)
theorem plain(f:FuncId)(fn:Func)(hf:Tryz.pinned.checked.prog.funcNamed "grisaille/grisaillelaw46.ScenebinPixelsRoundTrip" = some f)(hfn:Tryz.pinned.checked.prog.funcs[f]?=some fn) :
  true=Tryz.pinned.checked.prog.looks []∧∀(j:Nat) t,fn.params[j]?=some t→Tryz.pinned.checked.prog.wantsStandIn t=false:=by
 obtain rfl:f=4:=ahl ((show Tryz.prog.funcNamed "grisaille/grisaillelaw46.ScenebinPixelsRoundTrip" = some 4 by kernel_rfl).symm.trans hf) |>.symm;obtain rfl:fn=Tryz.f4:=(ahl (Tryz.func4.symm.trans hfn)).symm;refine⟨by kernel_rfl,fun j t ht=>?_⟩;rw[Tryz.params4]at ht;have hm:t∈[22,22,32]:=by simpa using Array.mem_of_getElem? ht
 have hall:([22,22,32].all fun u => !Tryz.prog.wantsStandIn u)=true:=by kernel_rfl
 have:=ahz.1 hall t hm;have h2:Tryz.prog.wantsStandIn t=false:=by simpa using this
 exact h2
theorem proved:Rows.ScenebinPixelsRoundTripCardSaid:=
 Claim7.holds_tied_plain_at .later [] _ _ _ _ said (fun _ h=>by cases h) (by kernel_rfl) (fun _ h=>by cases h) scenebinPixelsRoundTrip_row_tie rfl ⟨rfl,rfl⟩ (by kernel_rfl) rfl plain (by kernel_rfl)
#print axioms proved
end Go.Proofs.YtiafijffnejhoaaGreatDoor.scenebinPixelsRoundTripDone
