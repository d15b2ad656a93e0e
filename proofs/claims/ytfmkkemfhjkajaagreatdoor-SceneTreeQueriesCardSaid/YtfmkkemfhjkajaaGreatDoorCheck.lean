/- errors.As: of nil, and of a node's error. -/
import Derived.Test.YtfmkkemfhjkajaaGreatDoorNode
import Derived.Stop.Asserts
import Derived.LaidEql
set_option linter.unusedVariables false
set_option maxHeartbeats 1600000
set_option maxRecDepth 100000
namespace Go.Proofs.YtfmkkemfhjkajaaGreatDoor
open Go.RowKit
variable{α:Type}
def jE(w:World):Prop:=0 < w.heap.size∧w.rangeAt 0 0 [.iface 174 (.agg #[.pointer (some ⟨Tryz.prog.globals.size,108,none⟩)])]
theorem rls(v x:Value):Go.Extern.ReflectliteValue.set #[v,x]=(do
  let (some (dst,a,fl),some (src,b,_)):=(←Go.Extern.ReflectliteValue.parts v,←Go.Extern.ReflectliteValue.parts x)
   | unsupported (.noEntry "extern/(internal/reflectlite.Value).Set.zeroValue")
  if fl/Go.Extern.ReflectliteValue.flagAddr%2==0 then unsupported (.noEntry "extern/(internal/reflectlite.Value).Set.unaddressable")
  let val ←loadVar src b
  if ←Go.Extern.Rtype.directlyAssignable dst src then storeVar dst a val
  else if ←Go.Extern.Rtype.implements dst src then
   if (←Go.Extern.Rtype.kind src)==20 then
    match val with
    | .nilIface=>unsupported (.noEntry "extern/reflectlite: a nil value of one interface type handed on as a value of another")
    | _=>storeVar dst a val
   else storeVar dst a (.iface src val)
  else panicString ("reflectlite.Set: value of type " ++ (←Go.Extern.Rtype.spelt src) ++ " is not assignable to type " ++ (←Go.Extern.Rtype.spelt dst))
  pure (.tuple #[])):=rfl
theorem Ef(b:Nat)(w:World):(Go.Extern.ReflectliteValue.parts (.agg #[.pointer (some ⟨Tryz.prog.globals.size,111,none⟩),.pointer (some ⟨b,0,none⟩),.int .u64 409])).run Tryz.prog w = .ok (some (111,⟨b,0,none⟩,409)) w:=by kernel_rfl
theorem Eh(b:Nat)(w:World):(Go.Extern.ReflectliteValue.parts (.agg #[.pointer (some ⟨Tryz.prog.globals.size,111,none⟩),.pointer (some ⟨b,0,none⟩),.int .u64 153])).run Tryz.prog w = .ok (some (111,⟨b,0,none⟩,153)) w:=by kernel_rfl
theorem JH(w:World):(Go.Extern.Rtype.directlyAssignable 111 111).run Tryz.prog w = .ok true w:=by kernel_rfl
theorem U1(t b:Nat)(n:Int)(e:Value){w:World}{x0 x1:Value}(hb:Bx w b #[.int .i64 n,e])(ht:Bx w t #[x0,x1])(he:e.oneCell'=true) :
  (Go.Extern.ReflectliteValue.set #[.agg #[.pointer (some ⟨Tryz.prog.globals.size,111,none⟩),.pointer (some ⟨t,0,none⟩),.int .u64 409],.agg #[.pointer (some ⟨Tryz.prog.globals.size,111,none⟩),.pointer (some ⟨b,0,none⟩),.int .u64 153]]).run Tryz.prog w = .ok (.tuple #[]) (w.setCells t 0 [.int .i64 n,e]) ∧
   Ch t w (w.setCells t 0 [.int .i64 n,e])∧Bx (w.setCells t 0 [.int .i64 n,e]) t #[.int .i64 n,e]:=by
 refine⟨?_,(Ch.refl t w).setCells _ _,Bx.set ht _ rfl⟩
 rw[rls]
 have h1:=run_loadVar_mid (P:=Tryz.prog) w b 0 111 [.int .i64 n,e] _ (hb.range 0 2 rfl) Tryz.underlying111 rfl (by kernel_rfl)
 have h2:=run_storeVar_mid (P:=Tryz.prog) w t 0 111 #[.int .i64 n,e] (ht.there rfl) (by kernel_rfl) (by simp only[List.all_toArray,List.all_cons,List.all_nil,he,Bool.and_true]; rfl)
 have p1:=Ef t w
 have p2:=Eh b w
 have p3:=JH w
 have p4:(409/Go.Extern.ReflectliteValue.flagAddr%2==0)=false:=by decide
 generalize Tryz.prog.globals.size=g at p1 p2 ⊢
 simp only[Sem.run_bind,p1,p2,Result.andThen,p4,Bool.false_eq_true,if_false,h1,p3,if_true]
 rw[h2]
 rfl
theorem acI{ρ:Operand→Value}{o:Oper}{x y:Operand}{ts:Array TypeId}{u v V:Value}{w w1:World}(hop:o.op = .call { callee := .value (.func 163),args := #[x,y],argTypes:=ts })(hf:ρ (.func 163) = .func (.func 163) #[] #[])
  (hx:ρ x=u) (hy:ρ y=v) (hs:(Go.Extern.ReflectliteValue.set #[u,v]).run Tryz.prog w = .ok V w1):(execOp ρ o).run Tryz.prog w = .ok (.value V) w1:=by
 have h12:=@run_callFunc_extern Tryz.prog 163 _ Go.Extern.ReflectliteValue.set Tryz.func163 (by kernel_rfl) (by kernel_rfl) (by kernel_rfl) (by kernel_rfl)
 unfold execOp
 rw[hop]
 simp[go_sem,hf,hx,hy,h12,hs]
theorem as_nil(t:Value)(w:World) :
  Calls Tryz.prog 89 #[.nilIface,t] w fun e w'=>e = .returned (.bool false)∧w=w':=by
 skip
 refine aiK Tryz.func89 Tryz.ntmps89 fun ac S=>aiG fun _ aU=>adr S 1 [] [(4,.bool false)] fun ac S=>aiF<|aU _ _<|wp_seq_k fun _ fE=>aiG fun _ gW=>adr S 2 [] [(9,.bool true)] fun ac S=>aiF<|gW _ _<|aiN S<|aiG fun _ lG=>adr S 1 [] [(4,.bool false)] fun ac S=>aiF<|lG _ _<|Vp.rt ?_
 refine aiH S Tryz.results89 ?_
 exact⟨rfl,rfl⟩
theorem aaB{w0 w:World}{n:Int}{e x0 x1:Value}{t b:Nat}(he:e.oneCell'=true)(hE:Ext w0 w)(ht:Bx w t #[x0,x1])(hb:w0.heap.size≤t)(hv:b<w.heap.size∧w.rangeAt b 0 [.pointer (some ⟨t,0,none⟩)]∧t≠b) :
  Calls Tryz.prog 125 #[.iface 111 (.agg #[.int .i64 n,e]),.iface 113 (.pointer (some ⟨t,0,none⟩)),.agg #[.pointer (some ⟨Tryz.prog.globals.size,113,none⟩),.pointer (some ⟨b,0,none⟩),.int .u64 150],.iface 174 (.agg #[.pointer (some ⟨Tryz.prog.globals.size,111,none⟩)])] w fun ev w'=>ev = .returned (.bool true)∧Ext w0 w'∧Ch t w w'∧Bx w' t #[.int .i64 n,e]:=by
 skip
 refine Sx.PS Tryz.func125 Tryz.ntmps125 hE ht hb (fun ac S=>?_)
 have S:=S.view hv.1 hv.2.1 (fun p hp=>by obtain rfl:=List.mem_singleton.1 hp; exact hv.2.2)
 refine aiG fun _ aU=>aiJ S 6 [.pointer (some ⟨Tryz.prog.globals.size,113,none⟩),.pointer (some ⟨b,0,none⟩),.int .u64 150] fun ac u b2 E3 hb4 S=>adr S 1 [] [(8,.bool false)] fun ac S=>aiF<|aU _ _<|wp_block<|wp_loop_rounds 1 ?_
 rw[rounds_succ]
 refine wp_block<|wp_seq_k fun _ bV=>aiG fun _ iK=>adr S 4 [] [(19,.bool true)] fun ac S=>aiF<|iK _ _<|aiN S<|aiG fun _ kC=>adr S 3 [.mem 0 0,.lds [(2,0)]] [(21,.agg #[.pointer (some ⟨Tryz.prog.globals.size,111,none⟩),.pointer (some ⟨t,0,none⟩),.int .u64 409]),(22,.iface 111 (.agg #[.int .i64 n,e]))] fun ac S=>Sx.new S 23 [.int .i64 n,e] (fun b => .agg #[.pointer (some ⟨Tryz.prog.globals.size,111,none⟩),.pointer (some ⟨b,0,none⟩),.int .u64 153]) (fun ac u b8 E9 yC S=>?_)
 have hs:=U1 t b8 n e (w:=u) (S.bx 0) (S.bx 2) he
 refine Sx.wrote S 2 [.int .i64 n,e] (.tuple #[]) (some 24) rfl rfl rfl rfl ?_ hs.2.1 hs.2.2 (uT S.E hb _ _) (fun ac S=>?_)
 ·exact acI rfl rfl (S.s.has 21 _ rfl) (S.s.has 23 _ rfl) hs.1
 have LM:=Ch.trans (Ch.trans (Ch.refl t w) (Ch.uS (Ext.trans' E3 E9))) hs.2.1
 refine aiF<|kC _ _<|aiG fun _ fU=>adr S 1 [] [(8,.bool true)] fun ac S=>aiF<|fU _ _<|Vp.rt ?_
 refine aiH S Tryz.results125 ?_
 exact⟨rfl,S.E,LM,S.bx 2⟩
theorem jE.below{w w':World}(h:jE w)(hE:Ext w w'):jE w':=⟨Nat.lt_of_lt_of_le h.1 hE.size,Vp.xJ h.2 h.1 hE⟩
theorem as_hit{w0 w:World}{n:Int}{e x0 x1:Value}{t:Nat}(he:e.oneCell'=true)(hE:Ext w0 w)(ht:Bx w t #[x0,x1])(hb:w0.heap.size≤t)(hg:jE w0) :
  Calls Tryz.prog 89 #[.iface 111 (.agg #[.int .i64 n,e]),.iface 113 (.pointer (some ⟨t,0,none⟩))] w fun ev w'=>ev = .returned (.bool true)∧Ext w0 w'∧Ch t w w'∧Bx w' t #[.int .i64 n,e]:=by
 skip
 refine Sx.PS Tryz.func89 Tryz.ntmps89 hE ht hb (fun ac S=>?_)
 have S:=S.view0 hg.1 hg.2
 refine aiG fun _ aU=>adr S 1 [] [(4,.bool false)] fun ac S=>aiF<|aU _ _<|wp_seq_k fun _ fE=>aiG fun _ gW=>adr S 2 [] [(9,.bool false)] fun ac S=>aiF<|gW _ _<|aiY S<|wp_skip<|fE _ _<|wp_seq_k fun _ lG=>aiG fun _ bV=>adr S 2 [] [(11,.bool false)] fun ac S=>aiF<|bV _ _<|aiY S<|wp_skip<|lG _ _<|aiG fun _ iK=>adr S 1 [] [(13,.iface 113 (.pointer (some ⟨t,0,none⟩)))] fun ac S=>Sx.new S 14 [.pointer (some ⟨t,0,none⟩)] (fun b => .agg #[.pointer (some ⟨Tryz.prog.globals.size,113,none⟩),.pointer (some ⟨b,0,none⟩),.int .u64 150]) fun ac u b7 E8 IE S=>aiJ S 5 [.pointer none,.pointer none,.int .u64 0] fun ac u b10 sF PL S=>aiL S 0 (off:=0) (cs:=[.pointer (some ⟨Tryz.prog.globals.size,113,none⟩),.pointer (some ⟨b7,0,none⟩),.int .u64 150]) rfl (fun u C13 S=>?_)
 have Ei:=aiP (Ext.trans' E8 sF) C13 (by have:=E8.size; omega)
 refine aiF<|iK _ _<|aiG fun _ fH=>adr S 3 [.mem 0 0] [(6,.iface 174 (.agg #[.pointer (some ⟨Tryz.prog.globals.size,113,none⟩)]))] fun ac S=>aiF<|fH _ _<|wp_seq_k fun _ iR=>aiG fun _ ig=>adr S 7 [.mem 0 0,.lds [(1,0)]] [(23,.bool false)] fun ac S=>aiF<|ig _ _<|aiY S<|wp_skip<|iR _ _<|aiG fun _ je=>adr S 3 [] [(7,.iface 174 (.agg #[.pointer (some ⟨Tryz.prog.globals.size,111,none⟩)]))] fun ac S=>aiF<|je _ _<|wp_seq_k fun _ jf=>aiG fun _ iU=>adr S 9 [.mem 3 0] [(35,.bool false)] fun ac S=>aiF<|iU _ _<|aiY S<|wp_skip<|jf _ _<|aiG fun _ jo=>adr S 4 [.mem 0 0] [(37,.iface 111 (.agg #[.int .i64 n,e])),(38,.iface 113 (.pointer (some ⟨t,0,none⟩))),(39,.agg #[.pointer (some ⟨Tryz.prog.globals.size,113,none⟩),.pointer (some ⟨b7,0,none⟩),.int .u64 150]),(40,.iface 174 (.agg #[.pointer (some ⟨Tryz.prog.globals.size,111,none⟩)]))] (fun ac S=>?_)
 have hlt:=(S.bx 1).1
 refine Sx.IG S 2 [.int .i64 n,e] (some 41) rfl (aaB (n:=n) (t:=t) (b:=b7) he S.E (S.bx 2) hb ⟨(S.bx 1).1,(S.bx 1).range 0 1 rfl,S.ne (i:=2) (j:=1) rfl rfl (by decide)⟩) ?_
 rintro e u ⟨rfl,agm,aeD,agn⟩
 refine⟨_,rfl,agm,aeD,agn,fun ac S=>?_⟩
 have F23:=Ch.trans (Ch.trans (Ch.refl t w) (Ch.uS Ei)) aeD
 refine adr S 1 [] [(4,.bool true)] fun ac S=>aiF<|jo _ _<|Vp.rt ?_
 refine aiH S Tryz.results89 ?_
 exact⟨rfl,S.E,F23,S.bx 2⟩
open Go.RowKit
variable{α:Type}{K:Nat}
def jY:List (Bool×Int)→Int
 | []=>0
 | p::l=>if p.1=true then p.2 else jY l
def badL(l:List (Bool×Int)):Bool:=l.any (·.1)
abbrev gI (n:Int)(e:Value):Value := .iface 111 (.agg #[.int .i64 n,e])
theorem uU:∀l:List (Bool×Int),(badL l=false∧jU l = .nilIface∧jY l=0)∨(badL l=true∧∃n,jU l=gI 0 (gI n .nilIface)∧jY l=n)
 | [] => .inl ⟨rfl,rfl,rfl⟩
 | p::l=>by
  unfold jU jY badL
  rw[List.any_cons]
  cases hp:p.1 with
  | true=>exact .inr ⟨rfl,p.2,if_pos rfl,if_pos rfl⟩
  | false =>
   rw[if_neg (by simp),if_neg (by simp),Bool.false_or]
   exact uU l
def aj.qc(nd:aj):Int:=cond ((nd.kind)==1) (jY [((!(decide (1≤nd.blend)&&decide (nd.blend≤13))),2)]) (cond ((nd.kind)==2) (jY nd.uV) ((jY [(!(nd.img.valid),16),(((nd.cZ) != 1)&&((nd.cZ) != 2),2)])))
def aj.checkN(nd:aj):Int:=_root_.cond (badL nd.gJ) (jY nd.gJ) nd.qc
theorem PU(nd:aj):(nd.JI = .nilIface∧nd.qc=0)∨(nd.JI=gI nd.qc .nilIface)∨(nd.JI=gI 0 (gI nd.qc .nilIface)):=by
 have hL:∀l,(jU l = .nilIface∧jY l=0)∨(jU l=gI (jY l) .nilIface)∨(jU l=gI 0 (gI (jY l) .nilIface)):=by
  intro l
  rcases uU l with ⟨_,h1,h2⟩ | ⟨_,n,h1,h2⟩
  ·exact .inl ⟨h1,h2⟩
  ·exact .inr (.inr (by rw[h1,h2]))
 have hW:∀b n,(dD b n = .nilIface∧jY [(b,n)]=0)∨(dD b n=gI (jY [(b,n)]) .nilIface)∨(dD b n=gI 0 (gI (jY [(b,n)]) .nilIface)):=by
  intro b n
  cases b<;>simp[dD,jY]
 unfold aj.JI aj.qc aj.Ej
 cases h1:nd.kind==1
 ·cases h2:nd.kind==2
  ·exact hL _
  ·exact hL _
 ·exact hW _ _
theorem H8{w:World}{nd:aj}(h:fJ K w nd)(hg:jE w) :
  Calls Tryz.prog 54 #[nd.v] w fun e w'=>e = .returned (.int .i64 nd.checkN)∧Ext w w':=by
 skip
 refine aiK Tryz.func54 Tryz.ntmps54 fun ac S=>aiG fun _ aU=>aiJ S 1 nd.cells fun ac u b2 E3 hb4 S=>adr S 1 [] [(2,.int .i64 0)] fun ac S=>aiF<|aU _ _<|aiG fun _ bV=>adr S 1 [.mem 0 0] [(6,nd.v)] fun ac S=>aiM S 7 (PV (h.below S.E)) fun ac u E6 S=>adr S 1 [] [(3,nd.zX)] (fun ac S=>?_)
 rcases uU nd.gJ with ⟨hb,he,hc⟩ | ⟨hb,n,he,hc⟩
 ·rw[show nd.zX = .nilIface from he]at S
  refine aiF<|bV _ _<|wp_seq_k fun _ kC=>aiG fun _ dP=>adr S 2 [] [(9,.bool true)] fun ac S=>aiF<|dP _ _<|aiN S<|Vp.region<|adr S 1 [.mem 0 0] [(10,nd.v)] fun ac S=>aiM S 11 (LV (h.below S.E)) fun ac u E9 S=>adr S 1 [] [(3,nd.JI)] (fun ac S=>?_)
  rcases PU nd with ⟨ho,hn⟩ | ho | ho
  ·rw[ho]at S
   refine aiF<|kC _ _<|aiG fun _ dV=>adr S 1 [] [(4,.int .i64 0)] fun ac S=>aiF<|dV _ _<|aiG fun _ dB=>aiJ S 5 [.int .i64 0,.nilIface] fun ac u b12 H7 aey S=>aiF<|dB _ _<|wp_seq_k fun _ fH=>wp_block<|wp_loop_rounds 4 ?_
   rw[rounds_succ]
   refine wp_seq_k fun _ iR=>aiG fun _ ig=>adr S 2 [] [(12,.nilIface),(13,.iface 113 (.pointer (some ⟨b12,0,none⟩)))] fun ac S=>ai1 S 14 (as_nil (.iface 113 (.pointer (some ⟨b12,0,none⟩))) _) fun ac S=>aiF<|ig _ _<|aiY S<|wp_exit<|fH _ _<|aiG fun _ je=>adr S 2 [] [(2,.int .i64 0)] fun ac S=>aiF<|je _ _<|Vp.rt ?_
   refine aiH S Tryz.results54 ?_
   exact⟨by unfold aj.checkN; rw[hb]; simp only[_root_.cond]; rw[hn],S.E⟩
  ·rw[ho]at S
   refine aiF<|kC _ _<|aiG fun _ jf=>adr S 1 [] [(4,.int .i64 0)] fun ac S=>aiF<|jf _ _<|aiG fun _ iU=>aiJ S 5 [.int .i64 0,.nilIface] fun ac u b21 E22 XU S=>aiF<|iU _ _<|wp_seq_k fun _ kK=>wp_block<|wp_loop_rounds 4 ?_
   rw[rounds_succ]
   refine wp_seq_k fun _ wB=>aiG fun _ kH=>adr S 2 [] [(12,gI nd.qc .nilIface),(13,.iface 113 (.pointer (some ⟨b21,0,none⟩)))] fun ac S=>Sx.IG S 0 [.int .i64 nd.qc,.nilIface] (some 14) rfl (as_hit (n:=nd.qc) (e := .nilIface) rfl S.E (S.bx 0) (S.old 0) hg) ?_
   rintro e u ⟨rfl,agp,agq,agr⟩
   refine⟨_,rfl,agp,agq,agr,fun ac S=>?_⟩
   refine aiF<|kH _ _<|aiN S<|wp_skip<|wB _ _<|wp_block<|aiO S 5 [.mem 0 0,.mem 0 1] [] [(4,.int .i64 nd.qc),(18,.nilIface)] trivial fun ac u E28 S=>adr S 1 [] [(3,.nilIface)] fun ac S=>aiF ?_
   show Code.rounds _ _ _ 3 _ _
   rw[rounds_succ]
   refine wp_seq_k fun _ qm=>aiG fun _ nI=>adr S 2 [] [(12,.nilIface),(13,.iface 113 (.pointer (some ⟨b21,0,none⟩)))] fun ac S=>ai1 S 14 (as_nil (.iface 113 (.pointer (some ⟨b21,0,none⟩))) _) fun ac S=>aiF<|nI _ _<|aiY S<|wp_exit<|kK _ _<|aiG fun _ qg=>adr S 2 [] [(2,.int .i64 nd.qc)] fun ac S=>aiF<|qg _ _<|Vp.rt ?_
   refine aiH S Tryz.results54 ?_
   exact⟨by unfold aj.checkN; rw[hb]; simp only[_root_.cond],S.E⟩
  ·rw[ho]at S
   refine aiF<|kC _ _<|aiG fun _ kM=>adr S 1 [] [(4,.int .i64 0)] fun ac S=>aiF<|kM _ _<|aiG fun _ lW=>aiJ S 5 [.int .i64 0,.nilIface] fun ac u LC Xi U2 S=>aiF<|lW _ _<|wp_seq_k fun _ qo=>wp_block<|wp_loop_rounds 4 ?_
   rw[rounds_succ]
   refine wp_seq_k fun _ jG=>aiG fun _ ug=>adr S 2 [] [(12,gI 0 (gI nd.qc .nilIface)),(13,.iface 113 (.pointer (some ⟨LC,0,none⟩)))] fun ac S=>Sx.IG S 0 [.int .i64 0,gI nd.qc .nilIface] (some 14) rfl (as_hit (n:=0) (e:=gI nd.qc .nilIface) rfl S.E (S.bx 0) (S.old 0) hg) ?_
   rintro e u ⟨rfl,ags,agt,agu⟩
   refine⟨_,rfl,ags,agt,agu,fun ac S=>?_⟩
   refine aiF<|ug _ _<|aiN S<|wp_skip<|jG _ _<|wp_block<|aiO S 5 [.mem 0 0,.mem 0 1] [] [(4,.int .i64 0),(18,gI nd.qc .nilIface)] trivial fun ac u E41 S=>adr S 1 [] [(3,gI nd.qc .nilIface)] fun ac S=>aiF ?_
   show Code.rounds _ _ _ 3 _ _
   rw[rounds_succ]
   refine wp_seq_k fun _ qX=>aiG fun _ tH=>adr S 2 [] [(12,gI nd.qc .nilIface),(13,.iface 113 (.pointer (some ⟨LC,0,none⟩)))] fun ac S=>Sx.IG S 0 [.int .i64 nd.qc,.nilIface] (some 14) rfl (as_hit (n:=nd.qc) (e := .nilIface) rfl S.E (S.bx 0) (S.old 0) hg) ?_
   rintro e u ⟨rfl,agv,agw,agx⟩
   refine⟨_,rfl,agv,agw,agx,fun ac S=>?_⟩
   refine aiF<|tH _ _<|aiN S<|wp_skip<|qX _ _<|wp_block<|aiO S 5 [.mem 0 0,.mem 0 1] [] [(4,.int .i64 nd.qc),(18,.nilIface)] trivial fun ac u E45 S=>adr S 1 [] [(3,.nilIface)] fun ac S=>aiF ?_
   show Code.rounds _ _ _ 2 _ _
   rw[rounds_succ]
   refine wp_seq_k fun _ zU=>aiG fun _ zV=>adr S 2 [] [(12,.nilIface),(13,.iface 113 (.pointer (some ⟨LC,0,none⟩)))] fun ac S=>ai1 S 14 (as_nil (.iface 113 (.pointer (some ⟨LC,0,none⟩))) _) fun ac S=>aiF<|zV _ _<|aiY S<|wp_exit<|qo _ _<|aiG fun _ yx=>adr S 2 [] [(2,.int .i64 nd.qc)] fun ac S=>aiF<|yx _ _<|Vp.rt ?_
   refine aiH S Tryz.results54 ?_
   exact⟨by unfold aj.checkN; rw[hb]; simp only[_root_.cond],S.E⟩
 ·rw[show nd.zX=gI 0 (gI n .nilIface)from he]at S
  refine aiF<|bV _ _<|wp_seq_k fun _ yA=>aiG fun _ zW=>adr S 2 [] [(9,.bool false)] fun ac S=>aiF<|zW _ _<|aiY S<|wp_skip<|yA _ _<|aiG fun _ JJ=>adr S 1 [] [(4,.int .i64 0)] fun ac S=>aiF<|JJ _ _<|aiG fun _ U3=>aiJ S 5 [.int .i64 0,.nilIface] fun ac u b53 E54 aif S=>aiF<|U3 _ _<|wp_seq_k fun _ Ea=>wp_block<|wp_loop_rounds 4 ?_
  rw[rounds_succ]
  refine wp_seq_k fun _ JC=>aiG fun _ acJ=>adr S 2 [] [(12,gI 0 (gI n .nilIface)),(13,.iface 113 (.pointer (some ⟨b53,0,none⟩)))] fun ac S=>Sx.IG S 0 [.int .i64 0,gI n .nilIface] (some 14) rfl (as_hit (n:=0) (e:=gI n .nilIface) rfl S.E (S.bx 0) (S.old 0) hg) ?_
  rintro e u ⟨rfl,agy,agz,agA⟩
  refine⟨_,rfl,agy,agz,agA,fun ac S=>?_⟩
  refine aiF<|acJ _ _<|aiN S<|wp_skip<|JC _ _<|wp_block<|aiO S 5 [.mem 0 0,.mem 0 1] [] [(4,.int .i64 0),(18,gI n .nilIface)] trivial fun ac u E60 S=>adr S 1 [] [(3,gI n .nilIface)] fun ac S=>aiF ?_
  show Code.rounds _ _ _ 3 _ _
  rw[rounds_succ]
  refine wp_seq_k fun _ XI=>aiG fun _ acr=>adr S 2 [] [(12,gI n .nilIface),(13,.iface 113 (.pointer (some ⟨b53,0,none⟩)))] fun ac S=>Sx.IG S 0 [.int .i64 n,.nilIface] (some 14) rfl (as_hit (n:=n) (e := .nilIface) rfl S.E (S.bx 0) (S.old 0) hg) ?_
  rintro e u ⟨rfl,agB,agC,agD⟩
  refine⟨_,rfl,agB,agC,agD,fun ac S=>?_⟩
  refine aiF<|acr _ _<|aiN S<|wp_skip<|XI _ _<|wp_block<|aiO S 5 [.mem 0 0,.mem 0 1] [] [(4,.int .i64 n),(18,.nilIface)] trivial fun ac u E64 S=>adr S 1 [] [(3,.nilIface)] fun ac S=>aiF ?_
  show Code.rounds _ _ _ 2 _ _
  rw[rounds_succ]
  refine wp_seq_k fun _ aeE=>aiG fun _ agE=>adr S 2 [] [(12,.nilIface),(13,.iface 113 (.pointer (some ⟨b53,0,none⟩)))] fun ac S=>ai1 S 14 (as_nil (.iface 113 (.pointer (some ⟨b53,0,none⟩))) _) fun ac S=>aiF<|agE _ _<|aiY S<|wp_exit<|Ea _ _<|aiG fun _ acA=>adr S 2 [] [(2,.int .i64 n)] fun ac S=>aiF<|acA _ _<|Vp.rt ?_
  refine aiH S Tryz.results54 ?_
  exact⟨by unfold aj.checkN; rw[hb]; simp only[_root_.cond]; rw[hc],S.E⟩
open Go.RowKit
variable{α:Type}{K:Nat}
theorem aA.Bl{base:Nat}{w:World}{v:Value}{q:Bool×Nat×Nat}(h:bH base w v q):∃r:bM,v=r.v∧r.ok w∧r.n1=q.1∧r.l1=Na.au q.2.1∧r.n2=false∧r.l2=Na.au q.2.2:=by
 obtain⟨s,t,rfl,hs,ht,_⟩:=h
 have hs':=hs
 have ht':=ht
 obtain⟨a1,c1,rfl,_⟩:=hs
 obtain⟨a2,c2,rfl,_⟩:=ht
 exact⟨⟨q.1,a1,c1,Na.au q.2.1,false,a2,c2,Na.au q.2.2⟩,rfl,⟨hs',ht'⟩,rfl,rfl,rfl,rfl⟩
theorem vV{r:bM}{q:Bool×Nat×Nat}(h1:r.n1=q.1)(h2:r.l1=Na.au q.2.1)(h3:r.n2=false)(h4:r.l2=Na.au q.2.2)(hn:Hw q):r.q=q:=by
 unfold bM.q
 rw[h1,h2,h3,h4,Na.aI,Na.aI]; exact hn
theorem lQ{r:bM}{q:Bool×Nat×Nat}{K:Nat}(h2:r.l1=Na.au q.2.1)(h4:r.l2=Na.au q.2.2)(hl:qlen K q):r.fit K:=⟨by rw[h2]; exact hl.1,by rw[h4]; exact hl.2⟩
theorem dG.Bl{base K:Nat}{w:World}{v:Value}{Q:Q6}(h:jB base w v Q)(hn:vY Q)(hl:Em K Q):∃t:aV,v=t.v∧t.ok w∧t.q=Q∧t.fit K:=by
 obtain⟨t,rfl,h0,h1,h2,h3,h4,h5⟩:=h.sT
 obtain⟨n0,n1,n2,n3,n4,n5⟩:=hn
 obtain⟨l0,l1,l2,l3,l4,l5⟩:=hl
 obtain⟨r0,e0,a0,b0,c0,d0,f0⟩:=aA.Bl h0
 obtain⟨r1,e1,a1,b1,c1,d1,f1⟩:=aA.Bl h1
 obtain⟨r2,e2,a2,b2,c2,d2,f2⟩:=aA.Bl h2
 obtain⟨r3,e3,a3,b3,c3,d3,f3⟩:=aA.Bl h3
 obtain⟨r4,e4,a4,b4,c4,d4,f4⟩:=aA.Bl h4
 obtain⟨r5,e5,a5,b5,c5,d5,f5⟩:=aA.Bl h5
 refine⟨⟨r0,r1,r2,r3,r4,r5⟩,?_,⟨a0,a1,a2,a3,a4,a5⟩,?_,⟨lQ c0 f0 l0,lQ c1 f1 l1,lQ c2 f2 l2,lQ c3 f3 l3,lQ c4 f4 l4,lQ c5 f5 l5⟩⟩
 ·have key:∀{x y:bM},x.v=y.v→x.cells=y.cells:=fun h=>by
   unfold bM.v at h
   simp only[Value.agg.injEq,Array.mk.injEq]at h
   exact h
  unfold aV.v aV.cells
  rw[key e0,key e1,key e2,key e3,key e4,key e5]
 ·unfold aV.q
  rw[vV b0 c0 d0 f0 n0,vV b1 c1 d1 f1 n1,vV b2 c2 d2 f2 n2,vV b3 c3 d3 f3 n3,vV b4 c4 d4 f4 n4,vV b5 c5 d5 f5 n5]
theorem uX:vY qI:=⟨by decide,by decide,by decide,by decide,by decide,by decide⟩
theorem acK:Em 1 qI:=by
 have h1:qlen 1 (false,1,1):=⟨zY,zY⟩
 have h0:qlen 1 (false,0,1):=⟨by show(Na.au 0).length≤1; rw[Na.kX]; simp,zY⟩
 exact⟨h1,h0,h0,h1,h0,h0⟩
def gG(id:Int)(t:aV):aj:=⟨id,2,0,t,none,0,[],0,0,0,false,false,none,0,[],1,none,0,[],aZ.bare,none,0,[],bU.bare,0⟩
def nO:aj:=⟨0,0,0,aV.none,none,0,[],0,0,0,false,false,none,0,[],0,none,0,[],aZ.bare,none,0,[],bU.bare,0⟩
theorem pG(w:World):nP w (.slice none 0 0) []:=⟨nR _ _ _,fun s hs=>by cases hs⟩
theorem kN(w:World):iV w (.slice none 0 0) []:=⟨nR _ _ _,fun s hs=>by cases hs⟩
theorem U4{w:World}{id:Int}{t:aV}(hid:I64 id)(ht:t.ok w)(hf:t.fit 1)(hK:1≤K)(hK2:K≤10000):fJ K w (gG id t):=
 ⟨⟨hid,(show I64 2 by decide),gX,ht,pG w,gX,gX,pG w,(show I64 1 by decide),kN w,aZ.jH w,kN w,bU.jH w,gX⟩,⟨hf.1.mono hK,hf.2.1.mono hK,hf.2.2.1.mono hK,hf.2.2.2.1.mono hK,hf.2.2.2.2.1.mono hK,hf.2.2.2.2.2.mono hK⟩,fun p hp=>(by cases hp),fun p hp=>(by cases hp),hK,hK2⟩
theorem qN(w:World)(hK:1≤K)(hK2:K≤10000):fJ K w nO:=
 ⟨⟨gX,gX,gX,aV.gK w,pG w,gX,gX,pG w,gX,kN w,aZ.jH w,kN w,bU.jH w,gX⟩,aV.iI K,fun p hp=>(by cases hp),fun p hp=>(by cases hp),hK,hK2⟩
theorem JK:nO.checkN=2:=rfl
theorem bM.ok.bT{w w':World}{r:bM}{b:Nat}{A:Array Value}(h:r.ok w)(hc:Ch b w w')(hx:Bx w b A)(hA:A.toList.all yG=true):r.ok w':=⟨II h.1 hc hx hA,II h.2 hc hx hA⟩
theorem aV.ok.bT{w w':World}{t:aV}{b:Nat}{A:Array Value}(h:t.ok w)(hc:Ch b w w')(hx:Bx w b A)(hA:A.toList.all yG=true:=by rfl):t.ok w':=
 ⟨h.1.bT hc hx hA,h.2.1.bT hc hx hA,h.2.2.1.bT hc hx hA,h.2.2.2.1.bT hc hx hA,h.2.2.2.2.1.bT hc hx hA,h.2.2.2.2.2.bT hc hx hA⟩
end Go.Proofs.YtfmkkemfhjkajaaGreatDoor
