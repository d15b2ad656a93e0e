/- errors.As: of nil, and of a node's error. -/
import Derived.Test.YtfmkkemfhjkajaaGreatDoorNode
import Derived.Stop.Asserts
import Derived.LaidEql
set_option linter.unusedVariables false
set_option maxHeartbeats 1600000
set_option maxRecDepth 100000
namespace Go.Proofs.YtfmkkemfhjkajaaGreatDoor
open _root_.Go.Proofs.Tryz
open Go.RowKit
variable{α:Type}
def jL(w:World):Prop:=0 < w.heap.size∧w.rangeAt 0 0 [.iface 174 (.agg #[.pointer (some ⟨Tryz.prog.globals.size,108,none⟩)])]
theorem rls(v x:Value):Go.Extern.ReflectliteValue.set #[v,x]=(do
  let (some (dst,a,fl),some (src,b,_)):=(←Go.Extern.ReflectliteValue.parts v,←Go.Extern.ReflectliteValue.parts x)
   | unsupported (.noEntry "extern/(internal/reflectlite.Value).Set.zeroValue")
  if fl/Go.Extern.ReflectliteValue.flagAddr%2==0 then unsupported (.noEntry "extern/(internal/reflectlite.Value).Set.unaddressable")
  let val ←loadVar src b
  if ←Go.Extern.Rtype.directlyAssignable dst src then storeVar dst a val
  else if ←Go.Extern.Rtype.implements dst src then
   if (←Go.Extern.Rtype.kind src)==20 then
    match val with
    | .nilIface=>unsupported (.noEntry "extern/reflectlite: a nil value of one interface type handed on as a value of another")
    | _=>storeVar dst a val
   else storeVar dst a (.iface src val)
  else panicString ("reflectlite.Set: value of type " ++ (←Go.Extern.Rtype.spelt src) ++ " is not assignable to type " ++ (←Go.Extern.Rtype.spelt dst))
  pure (.tuple #[])):=rfl
theorem Ez(b:Nat)(w:World):(Go.Extern.ReflectliteValue.parts (.agg #[.pointer (some ⟨Tryz.prog.globals.size,111,none⟩),.pointer (some ⟨b,0,none⟩),.int .u64 409])).run prog w = .ok (some (111,⟨b,0,none⟩,409)) w:=by kernel_rfl
theorem EC(b:Nat)(w:World):(Go.Extern.ReflectliteValue.parts (.agg #[.pointer (some ⟨Tryz.prog.globals.size,111,none⟩),.pointer (some ⟨b,0,none⟩),.int .u64 153])).run prog w = .ok (some (111,⟨b,0,none⟩,153)) w:=by kernel_rfl
theorem Kt(w:World):(Go.Extern.Rtype.directlyAssignable 111 111).run prog w = .ok true w:=by kernel_rfl
theorem Wx(t b:Nat)(n:Int)(e:Value){w:World}{x0 x1:Value}(hb:Bx w b #[.i n,e])(ht:Bx w t #[x0,x1])(he:e.oneCell'=true) :
  (Go.Extern.ReflectliteValue.set #[.agg #[.pointer (some ⟨Tryz.prog.globals.size,111,none⟩),.pointer (some ⟨t,0,none⟩),.int .u64 409],.agg #[.pointer (some ⟨Tryz.prog.globals.size,111,none⟩),.pointer (some ⟨b,0,none⟩),.int .u64 153]]).run prog w = .ok (.tuple #[]) (w.setCells t 0 [.i n,e]) ∧
   Ch t w (w.setCells t 0 [.i n,e])∧Bx (w.setCells t 0 [.i n,e]) t #[.i n,e]:=by
 refine⟨?_,(Ch.refl t w).setCells _ _,Bx.set ht _ rfl⟩;rw[rls];have h1:=run_loadVar_mid (P:=prog) w b 0 111 [.i n,e] _ (hb.range 0 2 rfl) underlying111 rfl (by kernel_rfl);have h2:=run_storeVar_mid (P:=prog) w t 0 111 #[.i n,e] (ht.there rfl) (by kernel_rfl) (by simp only[List.all_toArray,anq,List.all_nil,he,Bool.and_true]; rfl);have p1:=Ez t w;have p2:=EC b w;have p3:=Kt w;have p4:(409/Go.Extern.ReflectliteValue.flagAddr%2==0)=false:=by decide
 generalize Tryz.prog.globals.size=g at p1 p2 ⊢;simp only[al1,p1,p2,Result.andThen,p4,ang,if_false,h1,p3,if_true];rw[h2];rfl
theorem adJ{ρ:Operand→Value}{o:Oper}{x y:Operand}{ts:Array TypeId}{u v V:Value}{w w1:World}(hop:o.op = .call { callee := .value (.func 163),args := #[x,y],argTypes:=ts })(hf:ρ (.func 163) = .func (.func 163) #[] #[])
  (hx:ρ x=u) (hy:ρ y=v) (hs:(Go.Extern.ReflectliteValue.set #[u,v]).run prog w = .ok V w1):(execOp ρ o).run prog w = .ok (.value V) w1:=by
 have h12:=@run_callFunc_extern prog 163 _ Go.Extern.ReflectliteValue.set func163 (by kernel_rfl) (by kernel_rfl) (by kernel_rfl) (by kernel_rfl);unfold execOp;rw[hop];simp[go_sem,hf,hx,hy,h12,hs]
theorem as_nil(t:Value)(w:World) :
  Calls prog 89 #[.nilIface,t] w fun e w'=>e = .returned (.bool false)∧w=w':=by
 skip;refine akN func89 ntmps89 fun ac S=>akJ fun _ aS=>adr S 1 [] [(4,.bool false)] fun S=>akI<|aS _ _<|ak6 fun _ fD=>akJ fun _ iD=>adr S 2 [] [(9,.bool true)] fun S=>akI<|iD _ _<|akT S<|akJ fun _ lI=>adr S 1 [] [(4,.bool false)] fun S=>akI<|lI _ _<|akM S results89 ?_;exact⟨rfl,rfl⟩
theorem abS{w0 w:World}{n:Int}{e x0 x1:Value}{t b:Nat}(he:e.oneCell'=true)(hE:Ext w0 w)(ht:Bx w t #[x0,x1])(hb:w0.heap.size≤t)(hv:b<w.heap.size∧w.rangeAt b 0 [.pointer (some ⟨t,0,none⟩)]∧t≠b) :
  Calls prog 125 #[.iface 111 (.agg #[.i n,e]),.iface 113 (.pointer (some ⟨t,0,none⟩)),.agg #[.pointer (some ⟨Tryz.prog.globals.size,113,none⟩),.pointer (some ⟨b,0,none⟩),.int .u64 150],.iface 174 (.agg #[.pointer (some ⟨Tryz.prog.globals.size,111,none⟩)])] w fun ev w'=>ev = .returned (.bool true)∧Ext w0 w'∧Ch t w w'∧Bx w' t #[.i n,e]:=by
 skip;refine Sx.QV func125 ntmps125 hE ht hb (fun ac S=>?_);have S:=S.view hv.1 hv.2.1 (fun p hp=>by obtain rfl:=al7.1 hp; exact hv.2.2);refine akJ fun _ aS=>akK S 6 [.pointer (some ⟨Tryz.prog.globals.size,113,none⟩),.pointer (some ⟨b,0,none⟩),.int .u64 150] fun ac u b2 E3 hb4 S=>adr S 1 [] [(8,.bool false)] fun S=>akI<|aS _ _<|ak8<|amn 1 ?_;rw[aln];refine ak8<|ak6 fun _ dB=>akJ fun _ je=>adr S 4 [] [(19,.bool true)] fun S=>akI<|je _ _<|akT S<|akJ fun _ kJ=>adr S 3 [.mem 0 0,.lds [(2,0)]] [(21,.agg #[.pointer (some ⟨Tryz.prog.globals.size,111,none⟩),.pointer (some ⟨t,0,none⟩),.int .u64 409]),(22,.iface 111 (.agg #[.i n,e]))] fun S=>Sx.new S 23 [.i n,e] (fun b => .agg #[.pointer (some ⟨Tryz.prog.globals.size,111,none⟩),.pointer (some ⟨b,0,none⟩),.int .u64 153]) (fun ac u b8 E9 wG S=>?_);have hs:=Wx t b8 n e (w:=u) (S.bx 0) (S.bx 2) he;refine Sx.wrote S 2 [.i n,e] (.tuple #[]) (some 24) rfl rfl rfl rfl ?_ hs.2.1 hs.2.2 (nS S.E hb _ _) (fun ac S=>?_)
 ·exact adJ rfl rfl (S.s.has 21 _ rfl) (S.s.has 23 _ rfl) hs.1
 have Nh:=Ch.trans (Ch.trans (Ch.refl t w) (Ch.rH (Ext.trans' E3 E9))) hs.2.1;refine akI<|kJ _ _<|akJ fun _ fH=>adr S 1 [] [(8,.bool true)] fun S=>akI<|fH _ _<|akM S results125 ?_;exact⟨rfl,S.E,Nh,S.bx 2⟩
theorem jL.below{w w':World}(h:jL w)(hE:Ext w w'):jL w':=⟨alH h.1 hE.size,Vp.xY h.2 h.1 hE⟩
theorem as_hit{w0 w:World}{n:Int}{e x0 x1:Value}{t:Nat}(he:e.oneCell'=true)(hE:Ext w0 w)(ht:Bx w t #[x0,x1])(hb:w0.heap.size≤t)(hg:jL w0) :
  Calls prog 89 #[.iface 111 (.agg #[.i n,e]),.iface 113 (.pointer (some ⟨t,0,none⟩))] w fun ev w'=>ev = .returned (.bool true)∧Ext w0 w'∧Ch t w w'∧Bx w' t #[.i n,e]:=by
 skip;refine Sx.QV func89 ntmps89 hE ht hb (fun ac S=>?_);have S:=S.view0 hg.1 hg.2;refine akJ fun _ aS=>adr S 1 [] [(4,.bool false)] fun S=>akI<|aS _ _<|ak6 fun _ fD=>akJ fun _ iD=>adr S 2 [] [(9,.bool false)] fun S=>akI<|iD _ _<|ak1 S<|ak7<|fD _ _<|ak6 fun _ lI=>akJ fun _ dB=>adr S 2 [] [(11,.bool false)] fun S=>akI<|dB _ _<|ak1 S<|ak7<|lI _ _<|akJ fun _ je=>adr S 1 [] [(13,.iface 113 (.pointer (some ⟨t,0,none⟩)))] fun S=>Sx.new S 14 [.pointer (some ⟨t,0,none⟩)] (fun b => .agg #[.pointer (some ⟨Tryz.prog.globals.size,113,none⟩),.pointer (some ⟨b,0,none⟩),.int .u64 150]) fun ac u b7 E8 hb9 S=>akK S 5 [.pointer none,.pointer none,.int .u64 0] fun ac u b10 wM QS S=>akO S 0 (off:=0) (cs:=[.pointer (some ⟨Tryz.prog.globals.size,113,none⟩),.pointer (some ⟨b7,0,none⟩),.int .u64 150]) rfl (fun u C13 S=>?_);have CS:=akR (Ext.trans' E8 wM) C13 (by have:=E8.size; omega);refine akI<|je _ _<|akJ fun _ fJ=>adr S 3 [.mem 0 0] [(6,.iface 174 (.agg #[.pointer (some ⟨Tryz.prog.globals.size,113,none⟩)]))] fun S=>akI<|fJ _ _<|ak6 fun _ jC=>akJ fun _ gJ=>adr S 7 [.mem 0 0,.lds [(1,0)]] [(23,.bool false)] fun S=>akI<|gJ _ _<|ak1 S<|ak7<|jC _ _<|akJ fun _ jh=>adr S 3 [] [(7,.iface 174 (.agg #[.pointer (some ⟨Tryz.prog.globals.size,111,none⟩)]))] fun S=>akI<|jh _ _<|ak6 fun _ jf=>akJ fun _ iT=>adr S 9 [.mem 3 0] [(35,.bool false)] fun S=>akI<|iT _ _<|ak1 S<|ak7<|jf _ _<|akJ fun _ jI=>adr S 4 [.mem 0 0] [(37,.iface 111 (.agg #[.i n,e])),(38,.iface 113 (.pointer (some ⟨t,0,none⟩))),(39,.agg #[.pointer (some ⟨Tryz.prog.globals.size,113,none⟩),.pointer (some ⟨b7,0,none⟩),.int .u64 150]),(40,.iface 174 (.agg #[.pointer (some ⟨Tryz.prog.globals.size,111,none⟩)]))] (fun S=>?_);have hlt:=(S.bx 1).1;refine Sx.Jc S 2 [.i n,e] (some 41) rfl (abS (n:=n) (t:=t) (b:=b7) he S.E (S.bx 2) hb ⟨(S.bx 1).1,(S.bx 1).range 0 1 rfl,S.ne (i:=2) (j:=1) rfl rfl (by decide)⟩) ?_;rintro e u ⟨rfl,ahv,afB,ahw⟩;refine⟨_,rfl,ahv,afB,ahw,fun ac S=>?_⟩;have F23:=Ch.trans (Ch.trans (Ch.refl t w) (Ch.rH CS)) afB;refine adr S 1 [] [(4,.bool true)] fun S=>akI<|jI _ _<|akM S results89 ?_;exact⟨rfl,S.E,F23,S.bx 2⟩
open Go.RowKit
variable{α:Type}{K:Nat}
def kE:List (Bool×Int)→Int
 | []=>0
 | p::l=>if p.1=true then p.2 else kE l
def badL(l:List (Bool×Int)):Bool:=l.any (·.1)
abbrev gQ (n:Int)(e:Value):Value := .iface 111 (.agg #[.i n,e])
theorem uS:∀l:List (Bool×Int),(badL l=false∧ku l = .nilIface∧kE l=0)∨(badL l=true∧∃n,ku l=gQ 0 (gQ n .nilIface)∧kE l=n)
 | [] => .inl ⟨rfl,rfl,rfl⟩
 | p::l=>by
  unfold ku kE badL
  rw[List.any_cons]
  cases hp:p.1 with
  | true=>exact .inr ⟨rfl,p.2,ale rfl,ale rfl⟩
  | false =>
   rw[ak9 (by simp),ak9 (by simp),anr]
   exact uS l
def aj.ql(nd:aj):Int:=cond ((nd.kind)==1) (kE [((!(decide (1≤nd.blend)&&decide (nd.blend≤13))),2)]) (cond ((nd.kind)==2) (kE nd.uT) ((kE [(!(nd.img.valid),16),(((nd.bP) != 1)&&((nd.bP) != 2),2)])))
def aj.checkN(nd:aj):Int:=_root_.cond (badL nd.gU) (kE nd.gU) nd.ql
theorem QW(nd:aj):(nd.Ku = .nilIface∧nd.ql=0)∨(nd.Ku=gQ nd.ql .nilIface)∨(nd.Ku=gQ 0 (gQ nd.ql .nilIface)):=by
 have hL:∀l,(ku l = .nilIface∧kE l=0)∨(ku l=gQ (kE l) .nilIface)∨(ku l=gQ 0 (gQ (kE l) .nilIface)):=by
  intro l;rcases uS l with ⟨_,h1,h2⟩ | ⟨_,n,h1,h2⟩
  ·exact .inl ⟨h1,h2⟩
  exact .inr (.inr (by rw[h1,h2]))
 have hW:∀b n,(dI b n = .nilIface∧kE [(b,n)]=0)∨(dI b n=gQ (kE [(b,n)]) .nilIface)∨(dI b n=gQ 0 (gQ (kE [(b,n)]) .nilIface)):=by
  intro b n;cases b<;>simp[dI,kE]
 unfold aj.Ku aj.ql aj.ED;cases h1:nd.kind==1
 ·cases h2:nd.kind==2
  ·exact hL _
  exact hL _
 exact hW _ _
theorem Iu{w:World}{nd:aj}(h:fK K w nd)(hg:jL w) :
  Calls prog 54 #[nd.v] w fun e w'=>e = .returned (.i nd.checkN)∧Ext w w':=by
 skip;refine akN func54 ntmps54 fun ac S=>akJ fun _ aS=>akK S 1 nd.cells fun ac u b2 E3 hb4 S=>adr S 1 [] [(2,.i 0)] fun S=>akI<|aS _ _<|akJ fun _ dB=>adr S 1 [.mem 0 0] [(6,nd.v)] fun S=>akQ S 7 (QX (h.below S.E)) fun ac u E6 S=>adr S 1 [] [(3,nd.Ad)] (fun S=>?_);rcases uS nd.gU with ⟨hb,he,hc⟩ | ⟨hb,n,he,hc⟩
 ·rw[show nd.Ad = .nilIface from he]at S;refine akI<|dB _ _<|ak6 fun _ kJ=>akJ fun _ dP=>adr S 2 [] [(9,.bool true)] fun S=>akI<|dP _ _<|akT S<|alc<|adr S 1 [.mem 0 0] [(10,nd.v)] fun S=>akQ S 11 (Nl (h.below S.E)) fun ac u E9 S=>adr S 1 [] [(3,nd.Ku)] (fun S=>?_);rcases QW nd with ⟨ho,hn⟩ | ho | ho
  ·rw[ho]at S;refine akI<|kJ _ _<|akJ fun _ fE=>adr S 1 [] [(4,.i 0)] fun S=>akI<|fE _ _<|akJ fun _ dn=>akK S 5 [.i 0,.nilIface] fun ac u b12 DN afy S=>akI<|dn _ _<|ak6 fun _ fJ=>ak8<|amn 4 ?_;rw[aln];refine ak6 fun _ jC=>akJ fun _ gJ=>adr S 2 [] [(12,.nilIface),(13,.iface 113 (.pointer (some ⟨b12,0,none⟩)))] fun S=>ak4 S 14 (as_nil (.iface 113 (.pointer (some ⟨b12,0,none⟩))) _) fun ac S=>akI<|gJ _ _<|ak1 S<|alk<|fJ _ _<|akJ fun _ jh=>adr S 2 [] [(2,.i 0)] fun S=>akI<|jh _ _<|akM S results54 ?_;exact⟨by unfold aj.checkN; rw[hb]; simp only[_root_.cond]; rw[hn],S.E⟩
  ·rw[ho]at S;refine akI<|kJ _ _<|akJ fun _ jf=>adr S 1 [] [(4,.i 0)] fun S=>akI<|jf _ _<|akJ fun _ iT=>akK S 5 [.i 0,.nilIface] fun ac u YB Jd Np S=>akI<|iT _ _<|ak6 fun _ kN=>ak8<|amn 4 ?_;rw[aln];refine ak6 fun _ tK=>akJ fun _ jZ=>adr S 2 [] [(12,gQ nd.ql .nilIface),(13,.iface 113 (.pointer (some ⟨YB,0,none⟩)))] fun S=>Sx.Jc S 0 [.i nd.ql,.nilIface] (some 14) rfl (as_hit (n:=nd.ql) (e := .nilIface) rfl S.E (S.bx 0) (S.old 0) hg) ?_;rintro e u ⟨rfl,ahx,ahy,ahz⟩;refine⟨_,rfl,ahx,ahy,ahz,fun ac S=>?_⟩;refine akI<|jZ _ _<|akT S<|ak7<|tK _ _<|ak8<|akU S 5 [.mem 0 0,.mem 0 1] [] [(4,.i nd.ql),(18,.nilIface)] trivial fun ac u Ze S=>adr S 1 [] [(3,.nilIface)] fun S=>akI ?_;show Code.rounds _ _ _ 3 _ _;rw[aln];refine ak6 fun _ qA=>akJ fun _ nN=>adr S 2 [] [(12,.nilIface),(13,.iface 113 (.pointer (some ⟨YB,0,none⟩)))] fun S=>ak4 S 14 (as_nil (.iface 113 (.pointer (some ⟨YB,0,none⟩))) _) fun ac S=>akI<|nN _ _<|ak1 S<|alk<|kN _ _<|akJ fun _ oL=>adr S 2 [] [(2,.i nd.ql)] fun S=>akI<|oL _ _<|akM S results54 ?_;exact⟨by unfold aj.checkN; rw[hb]; simp only[_root_.cond],S.E⟩
  rw[ho]at S;refine akI<|kJ _ _<|akJ fun _ kP=>adr S 1 [] [(4,.i 0)] fun S=>akI<|kP _ _<|akJ fun _ oK=>akK S 5 [.i 0,.nilIface] fun ac u Nq I8 Wy S=>akI<|oK _ _<|ak6 fun _ oH=>ak8<|amn 4 ?_;rw[aln];refine ak6 fun _ iW=>akJ fun _ qB=>adr S 2 [] [(12,gQ 0 (gQ nd.ql .nilIface)),(13,.iface 113 (.pointer (some ⟨Nq,0,none⟩)))] fun S=>Sx.Jc S 0 [.i 0,gQ nd.ql .nilIface] (some 14) rfl (as_hit (n:=0) (e:=gQ nd.ql .nilIface) rfl S.E (S.bx 0) (S.old 0) hg) ?_;rintro e u ⟨rfl,ahA,ahB,ahC⟩;refine⟨_,rfl,ahA,ahB,ahC,fun ac S=>?_⟩;refine akI<|qB _ _<|akT S<|ak7<|iW _ _<|ak8<|akU S 5 [.mem 0 0,.mem 0 1] [] [(4,.i 0),(18,gQ nd.ql .nilIface)] trivial fun ac u E41 S=>adr S 1 [] [(3,gQ nd.ql .nilIface)] fun S=>akI ?_;show Code.rounds _ _ _ 3 _ _;rw[aln];refine ak6 fun _ nM=>akJ fun _ rG=>adr S 2 [] [(12,gQ nd.ql .nilIface),(13,.iface 113 (.pointer (some ⟨Nq,0,none⟩)))] fun S=>Sx.Jc S 0 [.i nd.ql,.nilIface] (some 14) rfl (as_hit (n:=nd.ql) (e := .nilIface) rfl S.E (S.bx 0) (S.old 0) hg) ?_;rintro e u ⟨rfl,ahD,ahE,ahF⟩;refine⟨_,rfl,ahD,ahE,ahF,fun ac S=>?_⟩;refine akI<|rG _ _<|akT S<|ak7<|nM _ _<|ak8<|akU S 5 [.mem 0 0,.mem 0 1] [] [(4,.i nd.ql),(18,.nilIface)] trivial fun ac u E45 S=>adr S 1 [] [(3,.nilIface)] fun S=>akI ?_;show Code.rounds _ _ _ 2 _ _;rw[aln];refine ak6 fun _ Aa=>akJ fun _ yJ=>adr S 2 [] [(12,.nilIface),(13,.iface 113 (.pointer (some ⟨Nq,0,none⟩)))] fun S=>ak4 S 14 (as_nil (.iface 113 (.pointer (some ⟨Nq,0,none⟩))) _) fun ac S=>akI<|yJ _ _<|ak1 S<|alk<|oH _ _<|akJ fun _ wC=>adr S 2 [] [(2,.i nd.ql)] fun S=>akI<|wC _ _<|akM S results54 ?_;exact⟨by unfold aj.checkN; rw[hb]; simp only[_root_.cond],S.E⟩
 rw[show nd.Ad=gQ 0 (gQ n .nilIface)from he]at S;refine akI<|dB _ _<|ak6 fun _ wE=>akJ fun _ Ac=>adr S 2 [] [(9,.bool false)] fun S=>akI<|Ac _ _<|ak1 S<|ak7<|wE _ _<|akJ fun _ EF=>adr S 1 [] [(4,.i 0)] fun S=>akI<|EF _ _<|akJ fun _ Nr=>akK S 5 [.i 0,.nilIface] fun ac u b53 E54 Zf S=>akI<|Nr _ _<|ak6 fun _ Ep=>ak8<|amn 4 ?_;rw[aln];refine ak6 fun _ J4=>akJ fun _ adK=>adr S 2 [] [(12,gQ 0 (gQ n .nilIface)),(13,.iface 113 (.pointer (some ⟨b53,0,none⟩)))] fun S=>Sx.Jc S 0 [.i 0,gQ n .nilIface] (some 14) rfl (as_hit (n:=0) (e:=gQ n .nilIface) rfl S.E (S.bx 0) (S.old 0) hg) ?_;rintro e u ⟨rfl,ahG,ahH,ahI⟩;refine⟨_,rfl,ahG,ahH,ahI,fun ac S=>?_⟩;refine akI<|adK _ _<|akT S<|ak7<|J4 _ _<|ak8<|akU S 5 [.mem 0 0,.mem 0 1] [] [(4,.i 0),(18,gQ n .nilIface)] trivial fun ac u E60 S=>adr S 1 [] [(3,gQ n .nilIface)] fun S=>akI ?_;show Code.rounds _ _ _ 3 _ _;rw[aln];refine ak6 fun _ Y0=>akJ fun _ Y1=>adr S 2 [] [(12,gQ n .nilIface),(13,.iface 113 (.pointer (some ⟨b53,0,none⟩)))] fun S=>Sx.Jc S 0 [.i n,.nilIface] (some 14) rfl (as_hit (n:=n) (e := .nilIface) rfl S.E (S.bx 0) (S.old 0) hg) ?_;rintro e u ⟨rfl,ahJ,ahK,ahL⟩;refine⟨_,rfl,ahJ,ahK,ahL,fun ac S=>?_⟩;refine akI<|Y1 _ _<|akT S<|ak7<|Y0 _ _<|ak8<|akU S 5 [.mem 0 0,.mem 0 1] [] [(4,.i n),(18,.nilIface)] trivial fun ac u E64 S=>adr S 1 [] [(3,.nilIface)] fun S=>akI ?_;show Code.rounds _ _ _ 2 _ _;rw[aln];refine ak6 fun _ afC=>akJ fun _ ahM=>adr S 2 [] [(12,.nilIface),(13,.iface 113 (.pointer (some ⟨b53,0,none⟩)))] fun S=>ak4 S 14 (as_nil (.iface 113 (.pointer (some ⟨b53,0,none⟩))) _) fun ac S=>akI<|ahM _ _<|ak1 S<|alk<|Ep _ _<|akJ fun _ Ko=>adr S 2 [] [(2,.i n)] fun S=>akI<|Ko _ _<|akM S results54 ?_;exact⟨by unfold aj.checkN; rw[hb]; simp only[_root_.cond]; rw[hc],S.E⟩
open Go.RowKit
variable{α:Type}{K:Nat}
theorem aA.BH{base:Nat}{w:World}{v:Value}{q:Bool×Nat×Nat}(h:bG base w v q):∃r:bK,v=r.v∧r.ok w∧r.n1=q.1∧r.l1=Na.au q.2.1∧r.n2=false∧r.l2=Na.au q.2.2:=by
 obtain⟨s,t,rfl,hs,ht,_⟩:=h;have hs':=hs;have ht':=ht;obtain⟨a1,c1,rfl,_⟩:=hs;obtain⟨a2,c2,rfl,_⟩:=ht;exact⟨⟨q.1,a1,c1,Na.au q.2.1,false,a2,c2,Na.au q.2.2⟩,rfl,⟨hs',ht'⟩,rfl,rfl,rfl,rfl⟩
theorem vX{r:bK}{q:Bool×Nat×Nat}(h1:r.n1=q.1)(h2:r.l1=Na.au q.2.1)(h3:r.n2=false)(h4:r.l2=Na.au q.2.2)(hn:Io q):r.q=q:=by
 unfold bK.q;rw[h1,h2,h3,h4,Na.aH,Na.aH]; exact hn
theorem lS{r:bK}{q:Bool×Nat×Nat}{K:Nat}(h2:r.l1=Na.au q.2.1)(h4:r.l2=Na.au q.2.2)(hl:qlen K q):r.fit K:=⟨by rw[h2]; exact hl.1,by rw[h4]; exact hl.2⟩
theorem dJ.BH{base K:Nat}{w:World}{v:Value}{Q:Q6}(h:jg base w v Q)(hn:wH Q)(hl:EG K Q):∃t:aQ,v=t.v∧t.ok w∧t.q=Q∧t.fit K:=by
 obtain⟨t,rfl,h0,h1,h2,h3,h4,h5⟩:=h.sT;obtain⟨n0,n1,n2,n3,n4,n5⟩:=hn;obtain⟨l0,l1,l2,l3,l4,l5⟩:=hl;obtain⟨r0,e0,a0,b0,c0,d0,f0⟩:=aA.BH h0;obtain⟨r1,e1,a1,b1,c1,d1,f1⟩:=aA.BH h1;obtain⟨r2,e2,a2,b2,c2,d2,f2⟩:=aA.BH h2;obtain⟨r3,e3,a3,b3,c3,d3,f3⟩:=aA.BH h3;obtain⟨r4,e4,a4,b4,c4,d4,f4⟩:=aA.BH h4;obtain⟨r5,e5,a5,b5,c5,d5,f5⟩:=aA.BH h5;refine⟨⟨r0,r1,r2,r3,r4,r5⟩,?_,⟨a0,a1,a2,a3,a4,a5⟩,?_,⟨lS c0 f0 l0,lS c1 f1 l1,lS c2 f2 l2,lS c3 f3 l3,lS c4 f4 l4,lS c5 f5 l5⟩⟩
 ·have key:∀{x y:bK},x.v=y.v→x.cells=y.cells:=fun h=>by
   unfold bK.v at h;simp only[amD,amE]at h;exact h
  unfold aQ.v aQ.cells;rw[key e0,key e1,key e2,key e3,key e4,key e5]
 unfold aQ.q;rw[vX b0 c0 d0 f0 n0,vX b1 c1 d1 f1 n1,vX b2 c2 d2 f2 n2,vX b3 c3 d3 f3 n3,vX b4 c4 d4 f4 n4,vX b5 c5 d5 f5 n5]
theorem uU:wH qI:=⟨by decide,by decide,by decide,by decide,by decide,by decide⟩
theorem adL:EG 1 qI:=by
 have h1:qlen 1 (false,1,1):=⟨Ae,Ae⟩;have h0:qlen 1 (false,0,1):=⟨by show(Na.au 0).length≤1; rw[Na.mO]; simp,Ae⟩;exact⟨h1,h0,h0,h1,h0,h0⟩
def gK(id:Int)(t:aQ):aj:=⟨id,2,0,t,none,0,[],0,0,0,false,false,none,0,[],1,none,0,[],aX.bare,none,0,[],bW.bare,0⟩
def l7:aj:=⟨0,0,0,aQ.none,none,0,[],0,0,0,false,false,none,0,[],0,none,0,[],aX.bare,none,0,[],bW.bare,0⟩
theorem pI(w:World):nT w (.slice none 0 0) []:=⟨nU _ _ _,fun s hs=>by cases hs⟩
theorem kQ(w:World):iL w (.slice none 0 0) []:=⟨nU _ _ _,fun s hs=>by cases hs⟩
theorem WA{w:World}{id:Int}{t:aQ}(hid:I64 id)(ht:t.ok w)(hf:t.fit 1)(hK:1≤K)(hK2:K≤10000):fK K w (gK id t):=
 ⟨⟨hid,(show I64 2 by decide),gZ,ht,pI w,gZ,gZ,pI w,(show I64 1 by decide),kQ w,aX.jM w,kQ w,bW.jM w,gZ⟩,⟨hf.1.mono hK,hf.2.1.mono hK,hf.2.2.1.mono hK,hf.2.2.2.1.mono hK,hf.2.2.2.2.1.mono hK,hf.2.2.2.2.2.mono hK⟩,fun p hp=>(by cases hp),fun p hp=>(by cases hp),hK,hK2⟩
theorem oM(w:World)(hK:1≤K)(hK2:K≤10000):fK K w l7:=
 ⟨⟨gZ,gZ,gZ,aQ.gV w,pI w,gZ,gZ,pI w,gZ,kQ w,aX.jM w,kQ w,bW.jM w,gZ⟩,aQ.iM K,fun p hp=>(by cases hp),fun p hp=>(by cases hp),hK,hK2⟩
theorem Kv:l7.checkN=2:=rfl
theorem bK.ok.bC{w w':World}{r:bK}{b:Nat}{A:Array Value}(h:r.ok w)(hc:Ch b w w')(hx:Bx w b A)(hA:A.toList.all yP=true):r.ok w':=⟨qU h.1 hc hx hA,qU h.2 hc hx hA⟩
theorem aQ.ok.bC{w w':World}{t:aQ}{b:Nat}{A:Array Value}(h:t.ok w)(hc:Ch b w w')(hx:Bx w b A)(hA:A.toList.all yP=true:=by rfl):t.ok w':=
 ⟨h.1.bC hc hx hA,h.2.1.bC hc hx hA,h.2.2.1.bC hc hx hA,h.2.2.2.1.bC hc hx hA,h.2.2.2.2.1.bC hc hx hA,h.2.2.2.2.2.bC hc hx hA⟩
end Go.Proofs.YtfmkkemfhjkajaaGreatDoor
