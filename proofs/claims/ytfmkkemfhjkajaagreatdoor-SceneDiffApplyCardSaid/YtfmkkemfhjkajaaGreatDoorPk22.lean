/- errors.As: of nil, and of a node's error. Walks of the references on integers and rational numbers: DivMod, reduce, Normalize. -/
import Derived.Test.YtfmkkemfhjkajaaGreatDoorNode
import Derived.Stop.Asserts
import Derived.LaidEql
import Derived.Test.YtfmkkemfhjkajaaGreatDoorPk4
import Derived.Test.YtfmkkemfhjkajaaGreatDoorRat
import Derived.RegionTactic
import Derived.ChangeAlike
section
set_option maxHeartbeats 1600000
set_option maxRecDepth 100000
namespace Go.Proofs.YtfmkkemfhjkajaaGreatDoor
open Go.RowKit
variable{α:Type}
set_option linter.unusedVariables false
/-- The variable errors.errorType holds what it is laid with. -/
def GlobOk(w:World):Prop:=0 < w.heap.size∧w.rangeAt 0 0 [.iface 174 (.agg #[.pointer (some ⟨Tryz.prog.globals.size,108,none⟩)])]
theorem rls(v x:Value):Go.Extern.ReflectliteValue.set #[v,x]=(do
  let (some (dst,a,fl),some (src,b,_)):=(←Go.Extern.ReflectliteValue.parts v,←Go.Extern.ReflectliteValue.parts x)
   | unsupported (.noEntry "extern/(internal/reflectlite.Value).Set.zeroValue")
  if fl/Go.Extern.ReflectliteValue.flagAddr%2==0 then unsupported (.noEntry "extern/(internal/reflectlite.Value).Set.unaddressable")
  let val ←loadVar src b
  if ←Go.Extern.Rtype.directlyAssignable dst src then storeVar dst a val
  else if ←Go.Extern.Rtype.implements dst src then
   if (←Go.Extern.Rtype.kind src)==20 then
    match val with
    | .nilIface=>unsupported (.noEntry "extern/reflectlite: a nil value of one interface type handed on as a value of another")
    | _=>storeVar dst a val
   else storeVar dst a (.iface src val)
  else panicString ("reflectlite.Set: value of type " ++ (←Go.Extern.Rtype.spelt src) ++ " is not assignable to type " ++ (←Go.Extern.Rtype.spelt dst))
  pure (.tuple #[])):=rfl
theorem parts_wrong409(b:Nat)(w:World):(Go.Extern.ReflectliteValue.parts (.agg #[.pointer (some ⟨Tryz.prog.globals.size,111,none⟩),.pointer (some ⟨b,0,none⟩),.int .u64 409])).run Tryz.prog w = .ok (some (111,⟨b,0,none⟩,409)) w:=by kernel_rfl
theorem parts_wrong153(b:Nat)(w:World):(Go.Extern.ReflectliteValue.parts (.agg #[.pointer (some ⟨Tryz.prog.globals.size,111,none⟩),.pointer (some ⟨b,0,none⟩),.int .u64 153])).run Tryz.prog w = .ok (some (111,⟨b,0,none⟩,153)) w:=by kernel_rfl
theorem direct_wrong(w:World):(Go.Extern.Rtype.directlyAssignable 111 111).run Tryz.prog w = .ok true w:=by kernel_rfl
/-- (Value).Set: the variable t gets what the Value's own variable b holds. -/
theorem set_wrong(t b:Nat)(n:Int)(e:Value){w:World}{x0 x1:Value}(hb:Bx w b #[.int .i64 n,e])(ht:Bx w t #[x0,x1])(he:e.oneCell'=true) :
  (Go.Extern.ReflectliteValue.set #[.agg #[.pointer (some ⟨Tryz.prog.globals.size,111,none⟩),.pointer (some ⟨t,0,none⟩),.int .u64 409],.agg #[.pointer (some ⟨Tryz.prog.globals.size,111,none⟩),.pointer (some ⟨b,0,none⟩),.int .u64 153]]).run Tryz.prog w = .ok (.tuple #[]) (w.setCells t 0 [.int .i64 n,e]) ∧
   Ch t w (w.setCells t 0 [.int .i64 n,e])∧Bx (w.setCells t 0 [.int .i64 n,e]) t #[.int .i64 n,e]:=by
 refine⟨?_,(Ch.refl t w).setCells _ _,Bx.set ht _ rfl⟩
 rw[rls]
 have h1:=run_loadVar_mid (P:=Tryz.prog) w b 0 111 [.int .i64 n,e] _ (hb.range 0 2 rfl) Tryz.underlying111 rfl (by kernel_rfl)
 have h2:=run_storeVar_mid (P:=Tryz.prog) w t 0 111 #[.int .i64 n,e] (ht.there rfl) (by kernel_rfl) (by simp only[List.all_toArray,List.all_cons,List.all_nil,he,Bool.and_true]; rfl)
 have p1:=parts_wrong409 t w
 have p2:=parts_wrong153 b w
 have p3:=direct_wrong w
 have p4:(409/Go.Extern.ReflectliteValue.flagAddr%2==0)=false:=by decide
 generalize Tryz.prog.globals.size=g at p1 p2 ⊢
 simp only[Sem.run_bind,p1,p2,Result.andThen,p4,Bool.false_eq_true,if_false,h1,p3,if_true]
 rw[h2]
 rfl
theorem set_op{ρ:Operand→Value}{o:Oper}{x y:Operand}{ts:Array TypeId}{u v V:Value}{w w1:World}(hop:o.op = .call { callee := .value (.func 163),args := #[x,y],argTypes:=ts })(hf:ρ (.func 163) = .func (.func 163) #[] #[])
  (hx:ρ x=u) (hy:ρ y=v) (hs:(Go.Extern.ReflectliteValue.set #[u,v]).run Tryz.prog w = .ok V w1):(execOp ρ o).run Tryz.prog w = .ok (.value V) w1:=by
 have h12:=@run_callFunc_extern Tryz.prog 163 _ Go.Extern.ReflectliteValue.set Tryz.func163 (by kernel_rfl) (by kernel_rfl) (by kernel_rfl) (by kernel_rfl)
 unfold execOp
 rw[hop]
 simp[go_sem,hf,hx,hy,h12,hs]
theorem as_nil(t:Value)(w:World) :
  Calls Tryz.prog 89 #[.nilIface,t] w fun e w'=>e = .returned (.bool false)∧w=w':=by
 skip
 refine Sx.enter Tryz.func89 Tryz.ntmps89 fun ac S=>Sx.seqP fun _ κ1=>Sx.run S 1 [] [(4,.bool false)] fun ac S=>Sx.done<|κ1 _ _<|wp_seq_k fun _ κ2=>Sx.seqP fun _ κ3=>Sx.run S 2 [] [(9,.bool true)] fun ac S=>Sx.done<|κ3 _ _<|Sx.condT S<|Sx.seqP fun _ κ4=>Sx.run S 1 [] [(4,.bool false)] fun ac S=>Sx.done<|κ4 _ _<|Vp.rt ?_
 refine Sx.ret1 S Tryz.results89 ?_
 exact⟨rfl,rfl⟩
theorem as2_hit{w0 w:World}{n:Int}{e x0 x1:Value}{t b:Nat}(he:e.oneCell'=true)(hE:Ext w0 w)(ht:Bx w t #[x0,x1])(hb:w0.heap.size≤t)(hv:b<w.heap.size∧w.rangeAt b 0 [.pointer (some ⟨t,0,none⟩)]∧t≠b) :
  Calls Tryz.prog 125 #[.iface 111 (.agg #[.int .i64 n,e]),.iface 113 (.pointer (some ⟨t,0,none⟩)),.agg #[.pointer (some ⟨Tryz.prog.globals.size,113,none⟩),.pointer (some ⟨b,0,none⟩),.int .u64 150],.iface 174 (.agg #[.pointer (some ⟨Tryz.prog.globals.size,111,none⟩)])] w fun ev w'=>ev = .returned (.bool true)∧Ext w0 w'∧Ch t w w'∧Bx w' t #[.int .i64 n,e]:=by
 skip
 refine Sx.enterB Tryz.func125 Tryz.ntmps125 hE ht hb (fun ac S=>?_)
 have S:=S.view hv.1 hv.2.1 (fun p hp=>by obtain rfl:=List.mem_singleton.1 hp; exact hv.2.2)
 refine Sx.seqP fun _ κ1=>Sx.newp S 6 [.pointer (some ⟨Tryz.prog.globals.size,113,none⟩),.pointer (some ⟨b,0,none⟩),.int .u64 150] fun ac u b2 E3 hb4 S=>Sx.run S 1 [] [(8,.bool false)] fun ac S=>Sx.done<|κ1 _ _<|wp_block<|wp_loop_rounds 1 ?_
 rw[rounds_succ]
 refine wp_block<|wp_seq_k fun _ κ5=>Sx.seqP fun _ κ6=>Sx.run S 4 [] [(19,.bool true)] fun ac S=>Sx.done<|κ6 _ _<|Sx.condT S<|Sx.seqP fun _ κ7=>Sx.run S 3 [.mem 0 0,.lds [(2,0)]] [(21,.agg #[.pointer (some ⟨Tryz.prog.globals.size,111,none⟩),.pointer (some ⟨t,0,none⟩),.int .u64 409]),(22,.iface 111 (.agg #[.int .i64 n,e]))] fun ac S=>Sx.new S 23 [.int .i64 n,e] (fun b => .agg #[.pointer (some ⟨Tryz.prog.globals.size,111,none⟩),.pointer (some ⟨b,0,none⟩),.int .u64 153]) (fun ac u b8 E9 hb10 S=>?_)
 have hs:=set_wrong t b8 n e (w:=u) (S.bx 0) (S.bx 2) he
 refine Sx.wrote S 2 [.int .i64 n,e] (.tuple #[]) (some 24) rfl rfl rfl rfl ?_ hs.2.1 hs.2.2 (ext_setCells S.E hb _ _) (fun ac S=>?_)
 ·exact set_op rfl rfl (S.s.has 21 _ rfl) (S.s.has 23 _ rfl) hs.1
 have F12:=Ch.trans (Ch.trans (Ch.refl t w) (Ch.of_ext (Ext.trans' E3 E9))) hs.2.1
 refine Sx.done<|κ7 _ _<|Sx.seqP fun _ κ14=>Sx.run S 1 [] [(8,.bool true)] fun ac S=>Sx.done<|κ14 _ _<|Vp.rt ?_
 refine Sx.ret1 S Tryz.results125 ?_
 exact⟨rfl,S.E,F12,S.bx 2⟩
theorem GlobOk.below{w w':World}(h:GlobOk w)(hE:Ext w w'):GlobOk w':=⟨Nat.lt_of_lt_of_le h.1 hE.size,Vp.range_ext h.2 h.1 hE⟩
theorem as_hit{w0 w:World}{n:Int}{e x0 x1:Value}{t:Nat}(he:e.oneCell'=true)(hE:Ext w0 w)(ht:Bx w t #[x0,x1])(hb:w0.heap.size≤t)(hg:GlobOk w0) :
  Calls Tryz.prog 89 #[.iface 111 (.agg #[.int .i64 n,e]),.iface 113 (.pointer (some ⟨t,0,none⟩))] w fun ev w'=>ev = .returned (.bool true)∧Ext w0 w'∧Ch t w w'∧Bx w' t #[.int .i64 n,e]:=by
 skip
 refine Sx.enterB Tryz.func89 Tryz.ntmps89 hE ht hb (fun ac S=>?_)
 have S:=S.view0 hg.1 hg.2
 refine Sx.seqP fun _ κ1=>Sx.run S 1 [] [(4,.bool false)] fun ac S=>Sx.done<|κ1 _ _<|wp_seq_k fun _ κ2=>Sx.seqP fun _ κ3=>Sx.run S 2 [] [(9,.bool false)] fun ac S=>Sx.done<|κ3 _ _<|Sx.condF S<|wp_skip<|κ2 _ _<|wp_seq_k fun _ κ4=>Sx.seqP fun _ κ5=>Sx.run S 2 [] [(11,.bool false)] fun ac S=>Sx.done<|κ5 _ _<|Sx.condF S<|wp_skip<|κ4 _ _<|Sx.seqP fun _ κ6=>Sx.run S 1 [] [(13,.iface 113 (.pointer (some ⟨t,0,none⟩)))] fun ac S=>Sx.new S 14 [.pointer (some ⟨t,0,none⟩)] (fun b => .agg #[.pointer (some ⟨Tryz.prog.globals.size,113,none⟩),.pointer (some ⟨b,0,none⟩),.int .u64 150]) fun ac u b7 E8 hb9 S=>Sx.newp S 5 [.pointer none,.pointer none,.int .u64 0] fun ac u b10 E11 hb12 S=>Sx.store S 0 (off:=0) (cs:=[.pointer (some ⟨Tryz.prog.globals.size,113,none⟩),.pointer (some ⟨b7,0,none⟩),.int .u64 150]) rfl (fun u C13 S=>?_)
 have E14:=Sx.ext_ch (Ext.trans' E8 E11) C13 (by have:=E8.size; omega)
 refine Sx.done<|κ6 _ _<|Sx.seqP fun _ κ15=>Sx.run S 3 [.mem 0 0] [(6,.iface 174 (.agg #[.pointer (some ⟨Tryz.prog.globals.size,113,none⟩)]))] fun ac S=>Sx.done<|κ15 _ _<|wp_seq_k fun _ κ16=>Sx.seqP fun _ κ17=>Sx.run S 7 [.mem 0 0,.lds [(1,0)]] [(23,.bool false)] fun ac S=>Sx.done<|κ17 _ _<|Sx.condF S<|wp_skip<|κ16 _ _<|Sx.seqP fun _ κ18=>Sx.run S 3 [] [(7,.iface 174 (.agg #[.pointer (some ⟨Tryz.prog.globals.size,111,none⟩)]))] fun ac S=>Sx.done<|κ18 _ _<|wp_seq_k fun _ κ19=>Sx.seqP fun _ κ20=>Sx.run S 9 [.mem 3 0] [(35,.bool false)] fun ac S=>Sx.done<|κ20 _ _<|Sx.condF S<|wp_skip<|κ19 _ _<|Sx.seqP fun _ κ21=>Sx.run S 4 [.mem 0 0] [(37,.iface 111 (.agg #[.int .i64 n,e])),(38,.iface 113 (.pointer (some ⟨t,0,none⟩))),(39,.agg #[.pointer (some ⟨Tryz.prog.globals.size,113,none⟩),.pointer (some ⟨b7,0,none⟩),.int .u64 150]),(40,.iface 174 (.agg #[.pointer (some ⟨Tryz.prog.globals.size,111,none⟩)]))] (fun ac S=>?_)
 have hlt:=(S.bx 1).1
 refine Sx.callW S 2 [.int .i64 n,e] (some 41) rfl (as2_hit (n:=n) (t:=t) (b:=b7) he S.E (S.bx 2) hb ⟨(S.bx 1).1,(S.bx 1).range 0 1 rfl,S.ne (i:=2) (j:=1) rfl rfl (by decide)⟩) ?_
 rintro e u ⟨rfl,hE22,hC22,hX22⟩
 refine⟨_,rfl,hE22,hC22,hX22,fun ac S=>?_⟩
 have F23:=Ch.trans (Ch.trans (Ch.refl t w) (Ch.of_ext E14)) hC22
 refine Sx.run S 1 [] [(4,.bool true)] fun ac S=>Sx.done<|κ21 _ _<|Vp.rt ?_
 refine Sx.ret1 S Tryz.results89 ?_
 exact⟨rfl,S.E,F23,S.bx 2⟩
end Go.Proofs.YtfmkkemfhjkajaaGreatDoor
namespace Go.Proofs.YtfmkkemfhjkajaaGreatDoor
open Go.RowKit
variable{α:Type}{K:Nat}
set_option linter.unusedVariables false
/-- The number of the first error of a list. -/
def codeL:List (Bool×Int)→Int
 | []=>0
 | p::l=>if p.1=true then p.2 else codeL l
def badL(l:List (Bool×Int)):Bool:=l.any (·.1)
abbrev wrongV (n:Int)(e:Value):Value := .iface 111 (.agg #[.int .i64 n,e])
theorem firstE_cases:∀l:List (Bool×Int),(badL l=false∧firstE l = .nilIface∧codeL l=0)∨(badL l=true∧∃n,firstE l=wrongV 0 (wrongV n .nilIface)∧codeL l=n)
 | [] => .inl ⟨rfl,rfl,rfl⟩
 | p::l=>by
  unfold firstE codeL badL
  rw[List.any_cons]
  cases hp:p.1 with
  | true=>exact .inr ⟨rfl,p.2,if_pos rfl,if_pos rfl⟩
  | false =>
   rw[if_neg (by simp),if_neg (by simp),Bool.false_or]
   exact firstE_cases l
/-- The number of the first error of a node's own fields. -/
def NodeD.ownN(nd:NodeD):Int:=cond ((nd.kind)==1) (codeL [((!(decide (1≤nd.blend)&&decide (nd.blend≤13))),2)]) (cond ((nd.kind)==2) (codeL nd.shapeL) ((codeL [(!(nd.img.valid),16),(((nd.samp) != 1)&&((nd.samp) != 2),2)])))
def NodeD.checkN(nd:NodeD):Int:=_root_.cond (badL nd.commonL) (codeL nd.commonL) nd.ownN
theorem ownE_cases(nd:NodeD):(nd.ownE = .nilIface∧nd.ownN=0)∨(nd.ownE=wrongV nd.ownN .nilIface)∨(nd.ownE=wrongV 0 (wrongV nd.ownN .nilIface)):=by
 have hL:∀l,(firstE l = .nilIface∧codeL l=0)∨(firstE l=wrongV (codeL l) .nilIface)∨(firstE l=wrongV 0 (wrongV (codeL l) .nilIface)):=by
  intro l
  rcases firstE_cases l with ⟨_,h1,h2⟩ | ⟨_,n,h1,h2⟩
  ·exact .inl ⟨h1,h2⟩
  ·exact .inr (.inr (by rw[h1,h2]))
 have hW:∀b n,(whenE b n = .nilIface∧codeL [(b,n)]=0)∨(whenE b n=wrongV (codeL [(b,n)]) .nilIface)∨(whenE b n=wrongV 0 (wrongV (codeL [(b,n)]) .nilIface)):=by
  intro b n
  cases b<;>simp[whenE,codeL]
 unfold NodeD.ownE NodeD.ownN NodeD.shapeE
 cases h1:nd.kind==1
 ·cases h2:nd.kind==2
  ·exact hL _
  ·exact hL _
 ·exact hW _ _
theorem nodeCheck_any{w:World}{nd:NodeD}(h:NodeOk K w nd)(hg:GlobOk w) :
  Calls Tryz.prog 54 #[nd.v] w fun e w'=>e = .returned (.int .i64 nd.checkN)∧Ext w w':=by
 skip
 refine Sx.enter Tryz.func54 Tryz.ntmps54 fun ac S=>Sx.seqP fun _ κ1=>Sx.newp S 1 nd.cells fun ac u b2 E3 hb4 S=>Sx.run S 1 [] [(2,.int .i64 0)] fun ac S=>Sx.done<|κ1 _ _<|Sx.seqP fun _ κ5=>Sx.run S 1 [.mem 0 0] [(6,nd.v)] fun ac S=>Sx.callv S 7 (common_any (h.below S.E)) fun ac u E6 S=>Sx.run S 1 [] [(3,nd.commonE)] (fun ac S=>?_)
 rcases firstE_cases nd.commonL with ⟨hb,he,hc⟩ | ⟨hb,n,he,hc⟩
 ·rw[show nd.commonE = .nilIface from he]at S
  refine Sx.done<|κ5 _ _<|wp_seq_k fun _ κ7=>Sx.seqP fun _ κ8=>Sx.run S 2 [] [(9,.bool true)] fun ac S=>Sx.done<|κ8 _ _<|Sx.condT S<|Vp.region<|Sx.run S 1 [.mem 0 0] [(10,nd.v)] fun ac S=>Sx.callv S 11 (nodeOwn_any (h.below S.E)) fun ac u E9 S=>Sx.run S 1 [] [(3,nd.ownE)] (fun ac S=>?_)
  rcases ownE_cases nd with ⟨ho,hn⟩ | ho | ho
  ·rw[ho]at S
   refine Sx.done<|κ7 _ _<|Sx.seqP fun _ κ10=>Sx.run S 1 [] [(4,.int .i64 0)] fun ac S=>Sx.done<|κ10 _ _<|Sx.seqP fun _ κ11=>Sx.newp S 5 [.int .i64 0,.nilIface] fun ac u b12 E13 hb14 S=>Sx.done<|κ11 _ _<|wp_seq_k fun _ κ15=>wp_block<|wp_loop_rounds 4 ?_
   rw[rounds_succ]
   refine wp_seq_k fun _ κ16=>Sx.seqP fun _ κ17=>Sx.run S 2 [] [(12,.nilIface),(13,.iface 113 (.pointer (some ⟨b12,0,none⟩)))] fun ac S=>Sx.calls S 14 (as_nil (.iface 113 (.pointer (some ⟨b12,0,none⟩))) _) fun ac S=>Sx.done<|κ17 _ _<|Sx.condF S<|wp_exit<|κ15 _ _<|Sx.seqP fun _ κ18=>Sx.run S 2 [] [(2,.int .i64 0)] fun ac S=>Sx.done<|κ18 _ _<|Vp.rt ?_
   refine Sx.ret1 S Tryz.results54 ?_
   exact⟨by unfold NodeD.checkN; rw[hb]; simp only[_root_.cond]; rw[hn],S.E⟩
  ·rw[ho]at S
   refine Sx.done<|κ7 _ _<|Sx.seqP fun _ κ19=>Sx.run S 1 [] [(4,.int .i64 0)] fun ac S=>Sx.done<|κ19 _ _<|Sx.seqP fun _ κ20=>Sx.newp S 5 [.int .i64 0,.nilIface] fun ac u b21 E22 hb23 S=>Sx.done<|κ20 _ _<|wp_seq_k fun _ κ24=>wp_block<|wp_loop_rounds 4 ?_
   rw[rounds_succ]
   refine wp_seq_k fun _ κ25=>Sx.seqP fun _ κ26=>Sx.run S 2 [] [(12,wrongV nd.ownN .nilIface),(13,.iface 113 (.pointer (some ⟨b21,0,none⟩)))] fun ac S=>Sx.callW S 0 [.int .i64 nd.ownN,.nilIface] (some 14) rfl (as_hit (n:=nd.ownN) (e := .nilIface) rfl S.E (S.bx 0) (S.old 0) hg) ?_
   rintro e u ⟨rfl,hE27,hC27,hX27⟩
   refine⟨_,rfl,hE27,hC27,hX27,fun ac S=>?_⟩
   refine Sx.done<|κ26 _ _<|Sx.condT S<|wp_skip<|κ25 _ _<|wp_block<|Sx.draw S 5 [.mem 0 0,.mem 0 1] [] [(4,.int .i64 nd.ownN),(18,.nilIface)] trivial fun ac u E28 S=>Sx.run S 1 [] [(3,.nilIface)] fun ac S=>Sx.done ?_
   show Code.rounds _ _ _ 3 _ _
   rw[rounds_succ]
   refine wp_seq_k fun _ κ29=>Sx.seqP fun _ κ30=>Sx.run S 2 [] [(12,.nilIface),(13,.iface 113 (.pointer (some ⟨b21,0,none⟩)))] fun ac S=>Sx.calls S 14 (as_nil (.iface 113 (.pointer (some ⟨b21,0,none⟩))) _) fun ac S=>Sx.done<|κ30 _ _<|Sx.condF S<|wp_exit<|κ24 _ _<|Sx.seqP fun _ κ31=>Sx.run S 2 [] [(2,.int .i64 nd.ownN)] fun ac S=>Sx.done<|κ31 _ _<|Vp.rt ?_
   refine Sx.ret1 S Tryz.results54 ?_
   exact⟨by unfold NodeD.checkN; rw[hb]; simp only[_root_.cond],S.E⟩
  ·rw[ho]at S
   refine Sx.done<|κ7 _ _<|Sx.seqP fun _ κ32=>Sx.run S 1 [] [(4,.int .i64 0)] fun ac S=>Sx.done<|κ32 _ _<|Sx.seqP fun _ κ33=>Sx.newp S 5 [.int .i64 0,.nilIface] fun ac u b34 E35 hb36 S=>Sx.done<|κ33 _ _<|wp_seq_k fun _ κ37=>wp_block<|wp_loop_rounds 4 ?_
   rw[rounds_succ]
   refine wp_seq_k fun _ κ38=>Sx.seqP fun _ κ39=>Sx.run S 2 [] [(12,wrongV 0 (wrongV nd.ownN .nilIface)),(13,.iface 113 (.pointer (some ⟨b34,0,none⟩)))] fun ac S=>Sx.callW S 0 [.int .i64 0,wrongV nd.ownN .nilIface] (some 14) rfl (as_hit (n:=0) (e:=wrongV nd.ownN .nilIface) rfl S.E (S.bx 0) (S.old 0) hg) ?_
   rintro e u ⟨rfl,hE40,hC40,hX40⟩
   refine⟨_,rfl,hE40,hC40,hX40,fun ac S=>?_⟩
   refine Sx.done<|κ39 _ _<|Sx.condT S<|wp_skip<|κ38 _ _<|wp_block<|Sx.draw S 5 [.mem 0 0,.mem 0 1] [] [(4,.int .i64 0),(18,wrongV nd.ownN .nilIface)] trivial fun ac u E41 S=>Sx.run S 1 [] [(3,wrongV nd.ownN .nilIface)] fun ac S=>Sx.done ?_
   show Code.rounds _ _ _ 3 _ _
   rw[rounds_succ]
   refine wp_seq_k fun _ κ42=>Sx.seqP fun _ κ43=>Sx.run S 2 [] [(12,wrongV nd.ownN .nilIface),(13,.iface 113 (.pointer (some ⟨b34,0,none⟩)))] fun ac S=>Sx.callW S 0 [.int .i64 nd.ownN,.nilIface] (some 14) rfl (as_hit (n:=nd.ownN) (e := .nilIface) rfl S.E (S.bx 0) (S.old 0) hg) ?_
   rintro e u ⟨rfl,hE44,hC44,hX44⟩
   refine⟨_,rfl,hE44,hC44,hX44,fun ac S=>?_⟩
   refine Sx.done<|κ43 _ _<|Sx.condT S<|wp_skip<|κ42 _ _<|wp_block<|Sx.draw S 5 [.mem 0 0,.mem 0 1] [] [(4,.int .i64 nd.ownN),(18,.nilIface)] trivial fun ac u E45 S=>Sx.run S 1 [] [(3,.nilIface)] fun ac S=>Sx.done ?_
   show Code.rounds _ _ _ 2 _ _
   rw[rounds_succ]
   refine wp_seq_k fun _ κ46=>Sx.seqP fun _ κ47=>Sx.run S 2 [] [(12,.nilIface),(13,.iface 113 (.pointer (some ⟨b34,0,none⟩)))] fun ac S=>Sx.calls S 14 (as_nil (.iface 113 (.pointer (some ⟨b34,0,none⟩))) _) fun ac S=>Sx.done<|κ47 _ _<|Sx.condF S<|wp_exit<|κ37 _ _<|Sx.seqP fun _ κ48=>Sx.run S 2 [] [(2,.int .i64 nd.ownN)] fun ac S=>Sx.done<|κ48 _ _<|Vp.rt ?_
   refine Sx.ret1 S Tryz.results54 ?_
   exact⟨by unfold NodeD.checkN; rw[hb]; simp only[_root_.cond],S.E⟩
 ·rw[show nd.commonE=wrongV 0 (wrongV n .nilIface)from he]at S
  refine Sx.done<|κ5 _ _<|wp_seq_k fun _ κ49=>Sx.seqP fun _ κ50=>Sx.run S 2 [] [(9,.bool false)] fun ac S=>Sx.done<|κ50 _ _<|Sx.condF S<|wp_skip<|κ49 _ _<|Sx.seqP fun _ κ51=>Sx.run S 1 [] [(4,.int .i64 0)] fun ac S=>Sx.done<|κ51 _ _<|Sx.seqP fun _ κ52=>Sx.newp S 5 [.int .i64 0,.nilIface] fun ac u b53 E54 hb55 S=>Sx.done<|κ52 _ _<|wp_seq_k fun _ κ56=>wp_block<|wp_loop_rounds 4 ?_
  rw[rounds_succ]
  refine wp_seq_k fun _ κ57=>Sx.seqP fun _ κ58=>Sx.run S 2 [] [(12,wrongV 0 (wrongV n .nilIface)),(13,.iface 113 (.pointer (some ⟨b53,0,none⟩)))] fun ac S=>Sx.callW S 0 [.int .i64 0,wrongV n .nilIface] (some 14) rfl (as_hit (n:=0) (e:=wrongV n .nilIface) rfl S.E (S.bx 0) (S.old 0) hg) ?_
  rintro e u ⟨rfl,hE59,hC59,hX59⟩
  refine⟨_,rfl,hE59,hC59,hX59,fun ac S=>?_⟩
  refine Sx.done<|κ58 _ _<|Sx.condT S<|wp_skip<|κ57 _ _<|wp_block<|Sx.draw S 5 [.mem 0 0,.mem 0 1] [] [(4,.int .i64 0),(18,wrongV n .nilIface)] trivial fun ac u E60 S=>Sx.run S 1 [] [(3,wrongV n .nilIface)] fun ac S=>Sx.done ?_
  show Code.rounds _ _ _ 3 _ _
  rw[rounds_succ]
  refine wp_seq_k fun _ κ61=>Sx.seqP fun _ κ62=>Sx.run S 2 [] [(12,wrongV n .nilIface),(13,.iface 113 (.pointer (some ⟨b53,0,none⟩)))] fun ac S=>Sx.callW S 0 [.int .i64 n,.nilIface] (some 14) rfl (as_hit (n:=n) (e := .nilIface) rfl S.E (S.bx 0) (S.old 0) hg) ?_
  rintro e u ⟨rfl,hE63,hC63,hX63⟩
  refine⟨_,rfl,hE63,hC63,hX63,fun ac S=>?_⟩
  refine Sx.done<|κ62 _ _<|Sx.condT S<|wp_skip<|κ61 _ _<|wp_block<|Sx.draw S 5 [.mem 0 0,.mem 0 1] [] [(4,.int .i64 n),(18,.nilIface)] trivial fun ac u E64 S=>Sx.run S 1 [] [(3,.nilIface)] fun ac S=>Sx.done ?_
  show Code.rounds _ _ _ 2 _ _
  rw[rounds_succ]
  refine wp_seq_k fun _ κ65=>Sx.seqP fun _ κ66=>Sx.run S 2 [] [(12,.nilIface),(13,.iface 113 (.pointer (some ⟨b53,0,none⟩)))] fun ac S=>Sx.calls S 14 (as_nil (.iface 113 (.pointer (some ⟨b53,0,none⟩))) _) fun ac S=>Sx.done<|κ66 _ _<|Sx.condF S<|wp_exit<|κ56 _ _<|Sx.seqP fun _ κ67=>Sx.run S 2 [] [(2,.int .i64 n)] fun ac S=>Sx.done<|κ67 _ _<|Vp.rt ?_
  refine Sx.ret1 S Tryz.results54 ?_
  exact⟨by unfold NodeD.checkN; rw[hb]; simp only[_root_.cond]; rw[hc],S.E⟩
end Go.Proofs.YtfmkkemfhjkajaaGreatDoor
namespace Go.Proofs.YtfmkkemfhjkajaaGreatDoor
open Go.RowKit
variable{α:Type}{K:Nat}
set_option linter.unusedVariables false
/-- A transform made by the program, as a record. -/
theorem IsRatN.recD{base:Nat}{w:World}{v:Value}{q:Bool×Nat×Nat}(h:IsRatT base w v q):∃r:RatD,v=r.v∧r.ok w∧r.n1=q.1∧r.l1=Na.digs q.2.1∧r.n2=false∧r.l2=Na.digs q.2.2:=by
 obtain⟨s,t,rfl,hs,ht,_⟩:=h
 have hs':=hs
 have ht':=ht
 obtain⟨a1,c1,rfl,_⟩:=hs
 obtain⟨a2,c2,rfl,_⟩:=ht
 exact⟨⟨q.1,a1,c1,Na.digs q.2.1,false,a2,c2,Na.digs q.2.2⟩,rfl,⟨hs',ht'⟩,rfl,rfl,rfl,rfl⟩
theorem rec_q{r:RatD}{q:Bool×Nat×Nat}(h1:r.n1=q.1)(h2:r.l1=Na.digs q.2.1)(h3:r.n2=false)(h4:r.l2=Na.digs q.2.2)(hn:Nrm q):r.q=q:=by
 unfold RatD.q
 rw[h1,h2,h3,h4,Na.val_digs,Na.val_digs]; exact hn
theorem rec_fit{r:RatD}{q:Bool×Nat×Nat}{K:Nat}(h2:r.l1=Na.digs q.2.1)(h4:r.l2=Na.digs q.2.2)(hl:qlen K q):r.fit K:=⟨by rw[h2]; exact hl.1,by rw[h4]; exact hl.2⟩
theorem IsAffR.recD{base K:Nat}{w:World}{v:Value}{Q:Q6}(h:IsAffT base w v Q)(hn:Nrm6 Q)(hl:qlen6 K Q):∃t:AffD,v=t.v∧t.ok w∧t.q=Q∧t.fit K:=by
 obtain⟨t,rfl,h0,h1,h2,h3,h4,h5⟩:=h.sT
 obtain⟨n0,n1,n2,n3,n4,n5⟩:=hn
 obtain⟨l0,l1,l2,l3,l4,l5⟩:=hl
 obtain⟨r0,e0,a0,b0,c0,d0,f0⟩:=IsRatN.recD h0
 obtain⟨r1,e1,a1,b1,c1,d1,f1⟩:=IsRatN.recD h1
 obtain⟨r2,e2,a2,b2,c2,d2,f2⟩:=IsRatN.recD h2
 obtain⟨r3,e3,a3,b3,c3,d3,f3⟩:=IsRatN.recD h3
 obtain⟨r4,e4,a4,b4,c4,d4,f4⟩:=IsRatN.recD h4
 obtain⟨r5,e5,a5,b5,c5,d5,f5⟩:=IsRatN.recD h5
 refine⟨⟨r0,r1,r2,r3,r4,r5⟩,?_,⟨a0,a1,a2,a3,a4,a5⟩,?_,⟨rec_fit c0 f0 l0,rec_fit c1 f1 l1,rec_fit c2 f2 l2,rec_fit c3 f3 l3,rec_fit c4 f4 l4,rec_fit c5 f5 l5⟩⟩
 ·have key:∀{x y:RatD},x.v=y.v→x.cells=y.cells:=fun h=>by
   unfold RatD.v at h
   simp only[Value.agg.injEq,Array.mk.injEq]at h
   exact h
  unfold AffD.v AffD.cells
  rw[key e0,key e1,key e2,key e3,key e4,key e5]
 ·unfold AffD.q
  rw[rec_q b0 c0 d0 f0 n0,rec_q b1 c1 d1 f1 n1,rec_q b2 c2 d2 f2 n2,rec_q b3 c3 d3 f3 n3,rec_q b4 c4 d4 f4 n4,rec_q b5 c5 d5 f5 n5]
theorem qI_nrm:Nrm6 qI:=⟨by decide,by decide,by decide,by decide,by decide,by decide⟩
theorem qI_len:qlen6 1 qI:=by
 have h1:qlen 1 (false,1,1):=⟨digs_one,digs_one⟩
 have h0:qlen 1 (false,0,1):=⟨by show(Na.digs 0).length≤1; rw[Na.digs_zero]; simp,digs_one⟩
 exact⟨h1,h0,h0,h1,h0,h0⟩
/-- A shape with default values. -/
def shapeD(id:Int)(t:AffD):NodeD:=⟨id,2,0,t,none,0,[],0,0,0,false,false,none,0,[],1,none,0,[],StyleD.bare,none,0,[],ImgD.bare,0⟩
def nodeD0:NodeD:=⟨0,0,0,AffD.none,none,0,[],0,0,0,false,false,none,0,[],0,none,0,[],StyleD.bare,none,0,[],ImgD.bare,0⟩
theorem nil_segs(w:World):IsSegs w (.slice none 0 0) []:=⟨rowN_nil _ _ _,fun s hs=>by cases hs⟩
theorem nil_paints(w:World):IsPaints w (.slice none 0 0) []:=⟨rowN_nil _ _ _,fun s hs=>by cases hs⟩
theorem shapeD_ok{w:World}{id:Int}{t:AffD}(hid:I64 id)(ht:t.ok w)(hf:t.fit 1)(hK:1≤K)(hK2:K≤10000):NodeOk K w (shapeD id t):=
 ⟨⟨hid,(show I64 2 by decide),i64_0,ht,nil_segs w,i64_0,i64_0,nil_segs w,(show I64 1 by decide),nil_paints w,StyleD.bare_ok w,nil_paints w,ImgD.bare_ok w,i64_0⟩,⟨hf.1.mono hK,hf.2.1.mono hK,hf.2.2.1.mono hK,hf.2.2.2.1.mono hK,hf.2.2.2.2.1.mono hK,hf.2.2.2.2.2.mono hK⟩,fun p hp=>(by cases hp),fun p hp=>(by cases hp),hK,hK2⟩
theorem nodeD0_ok(w:World)(hK:1≤K)(hK2:K≤10000):NodeOk K w nodeD0:=
 ⟨⟨i64_0,i64_0,i64_0,AffD.none_ok w,nil_segs w,i64_0,i64_0,nil_segs w,i64_0,nil_paints w,StyleD.bare_ok w,nil_paints w,ImgD.bare_ok w,i64_0⟩,AffD.none_fit K,fun p hp=>(by cases hp),fun p hp=>(by cases hp),hK,hK2⟩
theorem nodeD0_check:nodeD0.checkN=2:=rfl
theorem RatD.ok.setc{w w':World}{r:RatD}{b:Nat}{A:Array Value}(h:r.ok w)(hc:Ch b w w')(hx:Bx w b A)(hA:A.toList.all noU32=true):r.ok w':=⟨u32s_setc h.1 hc hx hA,u32s_setc h.2 hc hx hA⟩
theorem AffD.ok.setc{w w':World}{t:AffD}{b:Nat}{A:Array Value}(h:t.ok w)(hc:Ch b w w')(hx:Bx w b A)(hA:A.toList.all noU32=true:=by rfl):t.ok w':=
 ⟨h.1.setc hc hx hA,h.2.1.setc hc hx hA,h.2.2.1.setc hc hx hA,h.2.2.2.1.setc hc hx hA,h.2.2.2.2.1.setc hc hx hA,h.2.2.2.2.2.setc hc hx hA⟩
end Go.Proofs.YtfmkkemfhjkajaaGreatDoor
end
section
namespace Go.Proofs.YtfmkkemfhjkajaaGreatDoor
open Go.RowKit
variable{α:Type}
set_option linter.unusedVariables false
theorem neg_neg(n1:Bool){a b:Nat}(hb:0<b):((!n1&&decide (0<a))&&decide (0<a/Nat.gcd a b))=negOf n1 true a b:=by
 unfold negOf sgn
 rw[if_neg (show b≠0 by omega)]
 rcases Nat.eq_zero_or_pos a with h | h
 ·subst h; simp
 ·rw[if_neg (show a≠0 by omega)]
  have:decide (0<a)=true:=decide_eq_true h
  rw[this]
  cases n1<;>simp
/-- Three blocks and what is in them. -/
structure Red (w wk:World) (n1 n2:Bool) (v1 v2 g:Value) (b5:Nat):Prop where
 c0:wk.cell? ⟨w.heap.size,0,none⟩=some (.bool n1)
 c1:wk.cell? ⟨w.heap.size,1,none⟩=some v1
 c2:wk.cell? ⟨w.heap.size+1,0,none⟩=some (.bool n2)
 c3:wk.cell? ⟨w.heap.size+1,1,none⟩=some v2
 c4:∀i,i<4→∃u,wk.cell? ⟨w.heap.size+1+1,i,none⟩=some u
 f0:∀i,wk.frozen? ⟨w.heap.size,i,none⟩=false
 f1:∀i,wk.frozen? ⟨w.heap.size+1,i,none⟩=false
 f4:∀i,wk.frozen? ⟨w.heap.size+1+1,i,none⟩=false
 c5:wk.cell? ⟨b5,0,none⟩=some (.bool false)
 c6:wk.cell? ⟨b5,1,none⟩=some g
 lt:w.heap.size+1+1<b5
 l5:b5<wk.heap.size
 bel:Ext w wk
theorem Red.ext{w wk w1:World}{n1 n2:Bool}{v1 v2 g:Value}{b5:Nat}(h:Red w wk n1 n2 v1 v2 g b5)(hb:Ext wk w1):Red w w1 n1 n2 v1 v2 g b5:=by
 obtain⟨h0,h1,h2,h3,h4,g0,g1,hf,h5,h6,h7,h8,h9⟩:=h
 have hs:=hb.size
 refine⟨?_,?_,?_,?_,fun i hi=>?_,fun i=>?_,fun i=>?_,fun i=>?_,?_,?_,h7,by omega,Ext.trans' h9 hb⟩
 ·rw[hb.cell (p:=⟨w.heap.size,0,none⟩) (by simp only; omega)]; exact h0
 ·rw[hb.cell (p:=⟨w.heap.size,1,none⟩) (by simp only; omega)]; exact h1
 ·rw[hb.cell (p:=⟨w.heap.size+1,0,none⟩) (by simp only; omega)]; exact h2
 ·rw[hb.cell (p:=⟨w.heap.size+1,1,none⟩) (by simp only; omega)]; exact h3
 ·rw[hb.cell (p:=⟨w.heap.size+1+1,i,none⟩) (by simp only; omega)]; exact h4 i hi
 ·rw[hb.frozen (p:=⟨w.heap.size,i,none⟩) (by simp only; omega)]; exact g0 i
 ·rw[hb.frozen (p:=⟨w.heap.size+1,i,none⟩) (by simp only; omega)]; exact g1 i
 ·rw[hb.frozen (p:=⟨w.heap.size+1+1,i,none⟩) (by simp only; omega)]; exact hf i
 ·rw[hb.cell (p:=⟨b5,0,none⟩) (by simp only; omega)]; exact h5
 ·rw[hb.cell (p:=⟨b5,1,none⟩) (by simp only; omega)]; exact h6
end Go.Proofs.YtfmkkemfhjkajaaGreatDoor
end
