/- errors.As: of nil, and of a node's error. -/
import Derived.Test.YtiafijffnejhoaaGreatDoorNode
import Derived.Stop.Asserts
import Derived.LaidEql
set_option linter.unusedVariables false
set_option maxHeartbeats 1600000
set_option maxRecDepth 100000
namespace Go.Proofs.YtiafijffnejhoaaGreatDoor
open Go.RowKit
variable{α:Type}
def dV(w:World):Prop:=0 < w.heap.size∧w.rangeAt 0 0 [.iface 245 (.agg #[.pointer (some ⟨Tryz.prog.globals.size,182,none⟩)])]
theorem rls(v x:Value):Go.Extern.ReflectliteValue.set #[v,x]=(do
  let (some (dst,a,fl),some (src,b,_)):=(←Go.Extern.ReflectliteValue.parts v,←Go.Extern.ReflectliteValue.parts x)
   | unsupported (.noEntry "extern/(internal/reflectlite.Value).Set.zeroValue")
  if fl/Go.Extern.ReflectliteValue.flagAddr%2==0 then unsupported (.noEntry "extern/(internal/reflectlite.Value).Set.unaddressable")
  let val ←loadVar src b
  if ←Go.Extern.Rtype.directlyAssignable dst src then storeVar dst a val
  else if ←Go.Extern.Rtype.implements dst src then
   if (←Go.Extern.Rtype.kind src)==20 then
    match val with
    | .nilIface=>unsupported (.noEntry "extern/reflectlite: a nil value of one interface type handed on as a value of another")
    | _=>storeVar dst a val
   else storeVar dst a (.iface src val)
  else panicString ("reflectlite.Set: value of type " ++ (←Go.Extern.Rtype.spelt src) ++ " is not assignable to type " ++ (←Go.Extern.Rtype.spelt dst))
  pure (.tuple #[])):=rfl
theorem zH(b:Nat)(w:World):(Go.Extern.ReflectliteValue.parts (.agg #[.pointer (some ⟨Tryz.prog.globals.size,185,none⟩),.pointer (some ⟨b,0,none⟩),.int .u64 409])).run Tryz.prog w = .ok (some (185,⟨b,0,none⟩,409)) w:=by kernel_rfl
theorem zI(b:Nat)(w:World):(Go.Extern.ReflectliteValue.parts (.agg #[.pointer (some ⟨Tryz.prog.globals.size,185,none⟩),.pointer (some ⟨b,0,none⟩),.int .u64 153])).run Tryz.prog w = .ok (some (185,⟨b,0,none⟩,153)) w:=by kernel_rfl
theorem Ee(w:World):(Go.Extern.Rtype.directlyAssignable 185 185).run Tryz.prog w = .ok true w:=by kernel_rfl
theorem Ot(t b:Nat)(n:Int)(e:Value){w:World}{x0 x1:Value}(hb:Bx w b #[.i n,e])(ht:Bx w t #[x0,x1])(he:e.oneCell'=true) :
  (Go.Extern.ReflectliteValue.set #[.agg #[.pointer (some ⟨Tryz.prog.globals.size,185,none⟩),.pointer (some ⟨t,0,none⟩),.int .u64 409],.agg #[.pointer (some ⟨Tryz.prog.globals.size,185,none⟩),.pointer (some ⟨b,0,none⟩),.int .u64 153]]).run Tryz.prog w = .ok (.tuple #[]) (w.setCells t 0 [.i n,e]) ∧
   Ch t w (w.setCells t 0 [.i n,e])∧Bx (w.setCells t 0 [.i n,e]) t #[.i n,e]:=by
 refine⟨?_,(Ch.refl t w).setCells _ _,Bx.set ht _ rfl⟩;rw[rls];have h1:=run_loadVar_mid (P:=Tryz.prog) w b 0 185 [.i n,e] _ (hb.range 0 2 rfl) Tryz.underlying185 rfl (by kernel_rfl);have h2:=run_storeVar_mid (P:=Tryz.prog) w t 0 185 #[.i n,e] (ht.there rfl) (by kernel_rfl) (by simp only[List.all_toArray,List.all_cons,List.all_nil,he,Bool.and_true]; rfl);have p1:=zH t w;have p2:=zI b w;have p3:=Ee w;have p4:(409/Go.Extern.ReflectliteValue.flagAddr%2==0)=false:=by decide
 generalize Tryz.prog.globals.size=g at p1 p2 ⊢;simp only[ahS,p1,p2,Result.andThen,p4,Bool.false_eq_true,if_false,h1,p3,if_true];rw[h2];rfl
theorem ZE{ρ:Operand→Value}{o:Oper}{x y:Operand}{ts:Array TypeId}{u v V:Value}{w w1:World}(hop:o.op = .call { callee := .value (.func 167),args := #[x,y],argTypes:=ts })(hf:ρ (.func 167) = .func (.func 167) #[] #[])
  (hx:ρ x=u) (hy:ρ y=v) (hs:(Go.Extern.ReflectliteValue.set #[u,v]).run Tryz.prog w = .ok V w1):(execOp ρ o).run Tryz.prog w = .ok (.value V) w1:=by
 have h12:=@run_callFunc_extern Tryz.prog 167 _ Go.Extern.ReflectliteValue.set Tryz.func167 (by kernel_rfl) (by kernel_rfl) (by kernel_rfl) (by kernel_rfl);unfold execOp;rw[hop];simp[go_sem,hf,hx,hy,h12,hs]
theorem as_nil(t:Value)(w:World) :
  Calls Tryz.prog 112 #[.nilIface,t] w fun e w'=>e = .returned (.bool false)∧w=w':=by
 skip;refine agX Tryz.func112 Tryz.ntmps112 fun ac S=>agS fun _ aX=>adr S 1 [] [(4,.bool false)] fun S=>agR<|aX _ _<|ag9 fun _ fH=>agS fun _ jK=>adr S 2 [] [(9,.bool true)] fun S=>agR<|jK _ _<|ag4 S<|agS fun _ uQ=>adr S 1 [] [(4,.bool false)] fun S=>agR<|uQ _ _<|agV S Tryz.results112 ?_;exact⟨rfl,rfl⟩
theorem Wh{w0 w:World}{n:Int}{e x0 x1:Value}{t b:Nat}(he:e.oneCell'=true)(hE:Ext w0 w)(ht:Bx w t #[x0,x1])(hb:w0.heap.size≤t)(hv:b<w.heap.size∧w.rangeAt b 0 [.pointer (some ⟨t,0,none⟩)]∧t≠b) :
  Calls Tryz.prog 142 #[.iface 185 (.agg #[.i n,e]),.iface 187 (.pointer (some ⟨t,0,none⟩)),.agg #[.pointer (some ⟨Tryz.prog.globals.size,187,none⟩),.pointer (some ⟨b,0,none⟩),.int .u64 150],.iface 245 (.agg #[.pointer (some ⟨Tryz.prog.globals.size,185,none⟩)])] w fun ev w'=>ev = .returned (.bool true)∧Ext w0 w'∧Ch t w w'∧Bx w' t #[.i n,e]:=by
 skip;refine Sx.rG Tryz.func142 Tryz.ntmps142 hE ht hb (fun ac S=>?_);have S:=S.view hv.1 hv.2.1 (fun p hp=>by obtain rfl:=aiK.1 hp; exact hv.2.2);refine agS fun _ aX=>agT S 6 [.pointer (some ⟨Tryz.prog.globals.size,187,none⟩),.pointer (some ⟨b,0,none⟩),.int .u64 150] fun ac u b2 E3 hb4 S=>adr S 1 [] [(8,.bool false)] fun S=>agR<|aX _ _<|ahc<|aiq 1 ?_;rw[ahr];refine ahc<|ag9 fun _ dM=>agS fun _ iI=>adr S 4 [] [(19,.bool true)] fun S=>agR<|iI _ _<|ag4 S<|agS fun _ jf=>adr S 3 [.mem 0 0,.VB [(2,0)]] [(21,.agg #[.pointer (some ⟨Tryz.prog.globals.size,185,none⟩),.pointer (some ⟨t,0,none⟩),.int .u64 409]),(22,.iface 185 (.agg #[.i n,e]))] fun S=>Sx.new S 23 [.i n,e] (fun b => .agg #[.pointer (some ⟨Tryz.prog.globals.size,185,none⟩),.pointer (some ⟨b,0,none⟩),.int .u64 153]) (fun ac u b8 E9 yY S=>?_);have hs:=Ot t b8 n e (w:=u) (S.bx 0) (S.bx 2) he;refine Sx.wrote S 2 [.i n,e] (.tuple #[]) (some 24) rfl rfl rfl rfl ?_ hs.2.1 hs.2.2 (lU S.E hb _ _) (fun ac S=>?_)
 ·exact ZE rfl rfl (S.s.has 21 _ rfl) (S.s.has 23 _ rfl) hs.1
 have Yp:=Ch.trans (Ch.trans (Ch.refl t w) (Ch.fV (Ext.trans' E3 E9))) hs.2.1;refine agR<|jf _ _<|agS fun _ fP=>adr S 1 [] [(8,.bool true)] fun S=>agR<|fP _ _<|agV S Tryz.results142 ?_;exact⟨rfl,S.E,Yp,S.bx 2⟩
theorem dV.below{w w':World}(h:dV w)(hE:Ext w w'):dV w':=⟨ahG h.1 hE.size,Vp.pF h.2 h.1 hE⟩
theorem as_hit{w0 w:World}{n:Int}{e x0 x1:Value}{t:Nat}(he:e.oneCell'=true)(hE:Ext w0 w)(ht:Bx w t #[x0,x1])(hb:w0.heap.size≤t)(hg:dV w0) :
  Calls Tryz.prog 112 #[.iface 185 (.agg #[.i n,e]),.iface 187 (.pointer (some ⟨t,0,none⟩))] w fun ev w'=>ev = .returned (.bool true)∧Ext w0 w'∧Ch t w w'∧Bx w' t #[.i n,e]:=by
 skip;refine Sx.rG Tryz.func112 Tryz.ntmps112 hE ht hb (fun ac S=>?_);have S:=S.view0 hg.1 hg.2;refine agS fun _ aX=>adr S 1 [] [(4,.bool false)] fun S=>agR<|aX _ _<|ag9 fun _ fH=>agS fun _ jK=>adr S 2 [] [(9,.bool false)] fun S=>agR<|jK _ _<|ag5 S<|aha<|fH _ _<|ag9 fun _ uQ=>agS fun _ dM=>adr S 2 [] [(11,.bool false)] fun S=>agR<|dM _ _<|ag5 S<|aha<|uQ _ _<|agS fun _ iI=>adr S 1 [] [(13,.iface 187 (.pointer (some ⟨t,0,none⟩)))] fun S=>Sx.new S 14 [.pointer (some ⟨t,0,none⟩)] (fun b => .agg #[.pointer (some ⟨Tryz.prog.globals.size,187,none⟩),.pointer (some ⟨b,0,none⟩),.int .u64 150]) fun ac u b7 E8 hb9 S=>agT S 5 [.pointer none,.pointer none,.int .u64 0] fun ac u b10 Ef V3 S=>agW S 0 (off:=0) (cs:=[.pointer (some ⟨Tryz.prog.globals.size,187,none⟩),.pointer (some ⟨b7,0,none⟩),.int .u64 150]) rfl (fun u C13 S=>?_);have L8:=agY (Ext.trans' E8 Ef) C13 (by have:=E8.size; omega);refine agR<|iI _ _<|agS fun _ jk=>adr S 3 [.mem 0 0] [(6,.iface 245 (.agg #[.pointer (some ⟨Tryz.prog.globals.size,187,none⟩)]))] fun S=>agR<|jk _ _<|ag9 fun _ kG=>agS fun _ iC=>adr S 7 [.mem 0 0,.VB [(1,0)]] [(23,.bool false)] fun S=>agR<|iC _ _<|ag5 S<|aha<|kG _ _<|agS fun _ jE=>adr S 3 [] [(7,.iface 245 (.agg #[.pointer (some ⟨Tryz.prog.globals.size,185,none⟩)]))] fun S=>agR<|jE _ _<|ag9 fun _ kX=>agS fun _ kH=>adr S 9 [.mem 3 0] [(35,.bool false)] fun S=>agR<|kH _ _<|ag5 S<|aha<|kX _ _<|agS fun _ nV=>adr S 4 [.mem 0 0] [(37,.iface 185 (.agg #[.i n,e])),(38,.iface 187 (.pointer (some ⟨t,0,none⟩))),(39,.agg #[.pointer (some ⟨Tryz.prog.globals.size,187,none⟩),.pointer (some ⟨b7,0,none⟩),.int .u64 150]),(40,.iface 245 (.agg #[.pointer (some ⟨Tryz.prog.globals.size,185,none⟩)]))] (fun S=>?_);have hlt:=(S.bx 1).1;refine Sx.kU S 2 [.i n,e] (some 41) rfl (Wh (n:=n) (t:=t) (b:=b7) he S.E (S.bx 2) hb ⟨(S.bx 1).1,(S.bx 1).range 0 1 rfl,S.ne (i:=2) (j:=1) rfl rfl (by decide)⟩) ?_;rintro e u ⟨rfl,aei,ab1,aej⟩;refine⟨_,rfl,aei,ab1,aej,fun ac S=>?_⟩;have F23:=Ch.trans (Ch.trans (Ch.refl t w) (Ch.fV L8)) ab1;refine adr S 1 [] [(4,.bool true)] fun S=>agR<|nV _ _<|agV S Tryz.results112 ?_;exact⟨rfl,S.E,F23,S.bx 2⟩
open Go.RowKit
variable{α:Type}{K:Nat}
def jU:List (Bool×Int)→Int
 | []=>0
 | p::l=>if p.1=true then p.2 else jU l
def badL(l:List (Bool×Int)):Bool:=l.any (·.1)
abbrev dW (n:Int)(e:Value):Value := .iface 185 (.agg #[.i n,e])
theorem qh:∀l:List (Bool×Int),(badL l=false∧iZ l = .nilIface∧jU l=0)∨(badL l=true∧∃n,iZ l=dW 0 (dW n .nilIface)∧jU l=n)
 | [] => .inl ⟨rfl,rfl,rfl⟩
 | p::l=>by
  unfold iZ jU badL
  rw[List.any_cons]
  cases hp:p.1 with
  | true=>exact .inr ⟨rfl,p.2,ahf rfl,ahf rfl⟩
  | false =>
   rw[ahe (by simp),ahe (by simp),Bool.false_or]
   exact qh l
def aB.mW(nd:aB):Int:=cond ((nd.kind)==1) (jU [((!(decide (1≤nd.blend)&&decide (nd.blend≤13))),2)]) (cond ((nd.kind)==2) (jU nd.xU) ((jU [(!(nd.img.valid),16),(((nd.dw) != 1)&&((nd.dw) != 2),2)])))
def aB.checkN(nd:aB):Int:=_root_.cond (badL nd.jg) (jU nd.jg) nd.mW
theorem Jw(nd:aB):(nd.Eh = .nilIface∧nd.mW=0)∨(nd.Eh=dW nd.mW .nilIface)∨(nd.Eh=dW 0 (dW nd.mW .nilIface)):=by
 have hL:∀l,(iZ l = .nilIface∧jU l=0)∨(iZ l=dW (jU l) .nilIface)∨(iZ l=dW 0 (dW (jU l) .nilIface)):=by
  intro l;rcases qh l with ⟨_,h1,h2⟩ | ⟨_,n,h1,h2⟩
  ·exact .inl ⟨h1,h2⟩
  exact .inr (.inr (by rw[h1,h2]))
 have hW:∀b n,(bI b n = .nilIface∧jU [(b,n)]=0)∨(bI b n=dW (jU [(b,n)]) .nilIface)∨(bI b n=dW 0 (dW (jU [(b,n)]) .nilIface)):=by
  intro b n;cases b<;>simp[bI,jU]
 unfold aB.Eh aB.mW aB.zJ;cases h1:nd.kind==1
 ·cases h2:nd.kind==2
  ·exact hL _
  exact hL _
 exact hW _ _
theorem uq{w:World}{nd:aB}(h:dZ K w nd)(hg:dV w) :
  Calls Tryz.prog 79 #[nd.v] w fun e w'=>e = .returned (.i nd.checkN)∧Ext w w':=by
 skip;refine agX Tryz.func79 Tryz.ntmps79 fun ac S=>agS fun _ aX=>agT S 1 nd.cells fun ac u b2 E3 hb4 S=>adr S 1 [] [(2,.i 0)] fun S=>agR<|aX _ _<|agS fun _ dM=>adr S 1 [.mem 0 0] [(6,nd.v)] fun S=>ag0 S 7 (Jy (h.below S.E)) fun ac u E6 S=>adr S 1 [] [(3,nd.wu)] (fun S=>?_);rcases qh nd.jg with ⟨hb,he,hc⟩ | ⟨hb,n,he,hc⟩
 ·rw[show nd.wu = .nilIface from he]at S;refine agR<|dM _ _<|ag9 fun _ jf=>agS fun _ dU=>adr S 2 [] [(9,.bool true)] fun S=>agR<|dU _ _<|ag4 S<|ahi<|adr S 1 [.mem 0 0] [(10,nd.v)] fun S=>ag0 S 11 (Gu (h.below S.E)) fun ac u E9 S=>adr S 1 [] [(3,nd.Eh)] (fun S=>?_);rcases Jw nd with ⟨ho,hn⟩ | ho | ho
  ·rw[ho]at S;refine agR<|jf _ _<|agS fun _ gI=>adr S 1 [] [(4,.i 0)] fun S=>agR<|gI _ _<|agS fun _ dB=>agT S 5 [.i 0,.nilIface] fun ac u b12 Jm Zl S=>agR<|dB _ _<|ag9 fun _ jk=>ahc<|aiq 4 ?_;rw[ahr];refine ag9 fun _ kG=>agS fun _ iC=>adr S 2 [] [(12,.nilIface),(13,.iface 187 (.pointer (some ⟨b12,0,none⟩)))] fun S=>aiL S 14 (as_nil (.iface 187 (.pointer (some ⟨b12,0,none⟩))) _) fun ac S=>agR<|iC _ _<|ag5 S<|ahn<|jk _ _<|agS fun _ jE=>adr S 2 [] [(2,.i 0)] fun S=>agR<|jE _ _<|agV S Tryz.results79 ?_;exact⟨by unfold aB.checkN; rw[hb]; simp only[_root_.cond]; rw[hn],S.E⟩
  ·rw[ho]at S;refine agR<|jf _ _<|agS fun _ kX=>adr S 1 [] [(4,.i 0)] fun S=>agR<|kX _ _<|agS fun _ kH=>agT S 5 [.i 0,.nilIface] fun ac u b21 VD Wi S=>agR<|kH _ _<|ag9 fun _ xP=>ahc<|aiq 4 ?_;rw[ahr];refine ag9 fun _ zF=>agS fun _ oN=>adr S 2 [] [(12,dW nd.mW .nilIface),(13,.iface 187 (.pointer (some ⟨b21,0,none⟩)))] fun S=>Sx.kU S 0 [.i nd.mW,.nilIface] (some 14) rfl (as_hit (n:=nd.mW) (e := .nilIface) rfl S.E (S.bx 0) (S.old 0) hg) ?_;rintro e u ⟨rfl,ZF,Wj,ZG⟩;refine⟨_,rfl,ZF,Wj,ZG,fun ac S=>?_⟩;refine agR<|oN _ _<|ag4 S<|aha<|zF _ _<|ahc<|ag2 S 5 [.mem 0 0,.mem 0 1] [] [(4,.i nd.mW),(18,.nilIface)] trivial fun ac u Wn S=>adr S 1 [] [(3,.nilIface)] fun S=>agR ?_;show Code.rounds _ _ _ 3 _ _;rw[ahr];refine ag9 fun _ yX=>agS fun _ qX=>adr S 2 [] [(12,.nilIface),(13,.iface 187 (.pointer (some ⟨b21,0,none⟩)))] fun S=>aiL S 14 (as_nil (.iface 187 (.pointer (some ⟨b21,0,none⟩))) _) fun ac S=>agR<|qX _ _<|ag5 S<|ahn<|xP _ _<|agS fun _ wz=>adr S 2 [] [(2,.i nd.mW)] fun S=>agR<|wz _ _<|agV S Tryz.results79 ?_;exact⟨by unfold aB.checkN; rw[hb]; simp only[_root_.cond],S.E⟩
  rw[ho]at S;refine agR<|jf _ _<|agS fun _ lG=>adr S 1 [] [(4,.i 0)] fun S=>agR<|lG _ _<|agS fun _ kW=>agT S 5 [.i 0,.nilIface] fun ac u Wp LP aek S=>agR<|kW _ _<|ag9 fun _ oO=>ahc<|aiq 4 ?_;rw[ahr];refine ag9 fun _ mX=>agS fun _ vX=>adr S 2 [] [(12,dW 0 (dW nd.mW .nilIface)),(13,.iface 187 (.pointer (some ⟨Wp,0,none⟩)))] fun S=>Sx.kU S 0 [.i 0,dW nd.mW .nilIface] (some 14) rfl (as_hit (n:=0) (e:=dW nd.mW .nilIface) rfl S.E (S.bx 0) (S.old 0) hg) ?_;rintro e u ⟨rfl,ael,aem,aen⟩;refine⟨_,rfl,ael,aem,aen,fun ac S=>?_⟩;refine agR<|vX _ _<|ag4 S<|aha<|mX _ _<|ahc<|ag2 S 5 [.mem 0 0,.mem 0 1] [] [(4,.i 0),(18,dW nd.mW .nilIface)] trivial fun ac u E41 S=>adr S 1 [] [(3,dW nd.mW .nilIface)] fun S=>agR ?_;show Code.rounds _ _ _ 3 _ _;rw[ahr];refine ag9 fun _ rD=>agS fun _ zD=>adr S 2 [] [(12,dW nd.mW .nilIface),(13,.iface 187 (.pointer (some ⟨Wp,0,none⟩)))] fun S=>Sx.kU S 0 [.i nd.mW,.nilIface] (some 14) rfl (as_hit (n:=nd.mW) (e := .nilIface) rfl S.E (S.bx 0) (S.old 0) hg) ?_;rintro e u ⟨rfl,aeo,aep,aer⟩;refine⟨_,rfl,aeo,aep,aer,fun ac S=>?_⟩;refine agR<|zD _ _<|ag4 S<|aha<|rD _ _<|ahc<|ag2 S 5 [.mem 0 0,.mem 0 1] [] [(4,.i nd.mW),(18,.nilIface)] trivial fun ac u Yt S=>adr S 1 [] [(3,.nilIface)] fun S=>agR ?_;show Code.rounds _ _ _ 2 _ _;rw[ahr];refine ag9 fun _ Gj=>agS fun _ Ec=>adr S 2 [] [(12,.nilIface),(13,.iface 187 (.pointer (some ⟨Wp,0,none⟩)))] fun S=>aiL S 14 (as_nil (.iface 187 (.pointer (some ⟨Wp,0,none⟩))) _) fun ac S=>agR<|Ec _ _<|ag5 S<|ahn<|oO _ _<|agS fun _ Gl=>adr S 2 [] [(2,.i nd.mW)] fun S=>agR<|Gl _ _<|agV S Tryz.results79 ?_;exact⟨by unfold aB.checkN; rw[hb]; simp only[_root_.cond],S.E⟩
 rw[show nd.wu=dW 0 (dW n .nilIface)from he]at S;refine agR<|dM _ _<|ag9 fun _ Ed=>agS fun _ Ce=>adr S 2 [] [(9,.bool false)] fun S=>agR<|Ce _ _<|ag5 S<|aha<|Ed _ _<|agS fun _ QW=>adr S 1 [] [(4,.i 0)] fun S=>agR<|QW _ _<|agS fun _ QX=>agT S 5 [.i 0,.nilIface] fun ac u b53 E54 agu S=>agR<|QX _ _<|ag9 fun _ Ea=>ahc<|aiq 4 ?_;rw[ahr];refine ag9 fun _ Eb=>agS fun _ Jz=>adr S 2 [] [(12,dW 0 (dW n .nilIface)),(13,.iface 187 (.pointer (some ⟨b53,0,none⟩)))] fun S=>Sx.kU S 0 [.i 0,dW n .nilIface] (some 14) rfl (as_hit (n:=0) (e:=dW n .nilIface) rfl S.E (S.bx 0) (S.old 0) hg) ?_;rintro e u ⟨rfl,aes,aeu,aev⟩;refine⟨_,rfl,aes,aeu,aev,fun ac S=>?_⟩;refine agR<|Jz _ _<|ag4 S<|aha<|Eb _ _<|ahc<|ag2 S 5 [.mem 0 0,.mem 0 1] [] [(4,.i 0),(18,dW n .nilIface)] trivial fun ac u E60 S=>adr S 1 [] [(3,dW n .nilIface)] fun S=>agR ?_;show Code.rounds _ _ _ 3 _ _;rw[ahr];refine ag9 fun _ QG=>agS fun _ QH=>adr S 2 [] [(12,dW n .nilIface),(13,.iface 187 (.pointer (some ⟨b53,0,none⟩)))] fun S=>Sx.kU S 0 [.i n,.nilIface] (some 14) rfl (as_hit (n:=n) (e := .nilIface) rfl S.E (S.bx 0) (S.old 0) hg) ?_;rintro e u ⟨rfl,aew,aex,aey⟩;refine⟨_,rfl,aew,aex,aey,fun ac S=>?_⟩;refine agR<|QH _ _<|ag4 S<|aha<|QG _ _<|ahc<|ag2 S 5 [.mem 0 0,.mem 0 1] [] [(4,.i n),(18,.nilIface)] trivial fun ac u E64 S=>adr S 1 [] [(3,.nilIface)] fun S=>agR ?_;show Code.rounds _ _ _ 2 _ _;rw[ahr];refine ag9 fun _ agv=>agS fun _ aez=>adr S 2 [] [(12,.nilIface),(13,.iface 187 (.pointer (some ⟨b53,0,none⟩)))] fun S=>aiL S 14 (as_nil (.iface 187 (.pointer (some ⟨b53,0,none⟩))) _) fun ac S=>agR<|aez _ _<|ag5 S<|ahn<|Ea _ _<|agS fun _ QK=>adr S 2 [] [(2,.i n)] fun S=>agR<|QK _ _<|agV S Tryz.results79 ?_;exact⟨by unfold aB.checkN; rw[hb]; simp only[_root_.cond]; rw[hc],S.E⟩
theorem Cj{w:World}{nd:aB}(h:dZ K w nd)(hg:dV w) :
  Calls Tryz.prog 44 #[nd.v] w fun e w'=>e = .returned (.bool (nd.checkN==0))∧Ext w w':=by
 skip;refine agX Tryz.func44 Tryz.ntmps44 fun ac S=>agS fun _ aX=>agT S 1 nd.cells fun ac u b2 E3 hb4 S=>adr S 1 [] [(2,.bool false)] fun S=>agR<|aX _ _<|agS fun _ dM=>adr S 1 [.mem 0 0] [(3,nd.v)] fun S=>ag0 S 4 (uq (h.below S.E) (hg.below S.E)) fun ac u E6 S=>adr S 2 [] [(2,.bool ((nd.checkN)==0))] fun S=>agR<|dM _ _<|agV S Tryz.results44 ?_;exact⟨rfl,S.E⟩
open Go.RowKit
variable{α:Type}{K:Nat}
theorem ak.xW{base:Nat}{w:World}{v:Value}{q:Bool×Nat×Nat}(h:bV base w v q):∃r:bD,v=r.v∧r.ok w∧r.n1=q.1∧r.l1=Na.aj q.2.1∧r.n2=false∧r.l2=Na.aj q.2.2:=by
 obtain⟨s,t,rfl,hs,ht,_⟩:=h;have hs':=hs;have ht':=ht;obtain⟨a1,c1,rfl,_⟩:=hs;obtain⟨a2,c2,rfl,_⟩:=ht;exact⟨⟨q.1,a1,c1,Na.aj q.2.1,false,a2,c2,Na.aj q.2.2⟩,rfl,⟨hs',ht'⟩,rfl,rfl,rfl,rfl⟩
theorem qN{r:bD}{q:Bool×Nat×Nat}(h1:r.n1=q.1)(h2:r.l1=Na.aj q.2.1)(h3:r.n2=false)(h4:r.l2=Na.aj q.2.2)(hn:Ei q):r.q=q:=by
 unfold bD.q;rw[h1,h2,h3,h4,Na.aC,Na.aC]; exact hn
theorem jL{r:bD}{q:Bool×Nat×Nat}{K:Nat}(h2:r.l1=Na.aj q.2.1)(h4:r.l2=Na.aj q.2.2)(hl:qlen K q):r.fit K:=⟨by rw[h2]; exact hl.1,by rw[h4]; exact hl.2⟩
theorem bQ.xW{base K:Nat}{w:World}{v:Value}{Q:Q6}(h:kK base w v Q)(hn:uS Q)(hl:zK K Q):∃t:aU,v=t.v∧t.ok w∧t.q=Q∧t.fit K:=by
 obtain⟨t,rfl,h0,h1,h2,h3,h4,h5⟩:=h.sT;obtain⟨n0,n1,n2,n3,n4,n5⟩:=hn;obtain⟨l0,l1,l2,l3,l4,l5⟩:=hl;obtain⟨r0,e0,a0,b0,c0,d0,f0⟩:=ak.xW h0;obtain⟨r1,e1,a1,b1,c1,d1,f1⟩:=ak.xW h1;obtain⟨r2,e2,a2,b2,c2,d2,f2⟩:=ak.xW h2;obtain⟨r3,e3,a3,b3,c3,d3,f3⟩:=ak.xW h3;obtain⟨r4,e4,a4,b4,c4,d4,f4⟩:=ak.xW h4;obtain⟨r5,e5,a5,b5,c5,d5,f5⟩:=ak.xW h5;refine⟨⟨r0,r1,r2,r3,r4,r5⟩,?_,⟨a0,a1,a2,a3,a4,a5⟩,?_,⟨jL c0 f0 l0,jL c1 f1 l1,jL c2 f2 l2,jL c3 f3 l3,jL c4 f4 l4,jL c5 f5 l5⟩⟩
 ·have key:∀{x y:bD},x.v=y.v→x.cells=y.cells:=fun h=>by
   unfold bD.v at h;simp only[aiA,aiB]at h;exact h
  unfold aU.v aU.cells;rw[key e0,key e1,key e2,key e3,key e4,key e5]
 unfold aU.q;rw[qN b0 c0 d0 f0 n0,qN b1 c1 d1 f1 n1,qN b2 c2 d2 f2 n2,qN b3 c3 d3 f3 n3,qN b4 c4 d4 f4 n4,qN b5 c5 d5 f5 n5]
theorem qj:uS qI:=⟨by decide,by decide,by decide,by decide,by decide,by decide⟩
theorem ZH:zK 1 qI:=by
 have h1:qlen 1 (false,1,1):=⟨wB,wB⟩;have h0:qlen 1 (false,0,1):=⟨by show(Na.aj 0).length≤1; rw[Na.jV]; simp,wB⟩;exact⟨h1,h0,h0,h1,h0,h0⟩
def iE(id:Int)(t:aU):aB:=⟨id,2,0,t,none,0,[],0,0,0,false,false,none,0,[],1,none,0,[],aV.bare,none,0,[],dA.bare,0⟩
def qm:aB:=⟨0,0,0,aU.none,none,0,[],0,0,0,false,false,none,0,[],0,none,0,[],aV.bare,none,0,[],dA.bare,0⟩
theorem lH(w:World):rH w (.slice none 0 0) []:=⟨jm _ _ _,fun s hs=>by cases hs⟩
theorem jo(w:World):iQ w (.slice none 0 0) []:=⟨jm _ _ _,fun s hs=>by cases hs⟩
theorem Ou{w:World}{id:Int}{t:aU}(hid:I64 id)(ht:t.ok w)(hf:t.fit 1)(hK:1≤K)(hK2:K≤10000):dZ K w (iE id t):=
 ⟨⟨hid,(show I64 2 by decide),eH,ht,lH w,eH,eH,lH w,(show I64 1 by decide),jo w,aV.iJ w,jo w,dA.iJ w,eH⟩,⟨hf.1.mono hK,hf.2.1.mono hK,hf.2.2.1.mono hK,hf.2.2.2.1.mono hK,hf.2.2.2.2.1.mono hK,hf.2.2.2.2.2.mono hK⟩,fun p hp=>(by cases hp),fun p hp=>(by cases hp),hK,hK2⟩
theorem tq(w:World)(hK:1≤K)(hK2:K≤10000):dZ K w qm:=
 ⟨⟨eH,eH,eH,aU.fD w,lH w,eH,eH,lH w,eH,jo w,aV.iJ w,jo w,dA.iJ w,eH⟩,aU.gK K,fun p hp=>(by cases hp),fun p hp=>(by cases hp),hK,hK2⟩
theorem Ej:qm.checkN=2:=rfl
theorem bD.ok.bM{w w':World}{r:bD}{b:Nat}{A:Array Value}(h:r.ok w)(hc:Ch b w w')(hx:Bx w b A)(hA:A.toList.all uw=true):r.ok w':=⟨mD h.1 hc hx hA,mD h.2 hc hx hA⟩
theorem aU.ok.bM{w w':World}{t:aU}{b:Nat}{A:Array Value}(h:t.ok w)(hc:Ch b w w')(hx:Bx w b A)(hA:A.toList.all uw=true:=by rfl):t.ok w':=
 ⟨h.1.bM hc hx hA,h.2.1.bM hc hx hA,h.2.2.1.bM hc hx hA,h.2.2.2.1.bM hc hx hA,h.2.2.2.2.1.bM hc hx hA,h.2.2.2.2.2.bM hc hx hA⟩
end Go.Proofs.YtiafijffnejhoaaGreatDoor
