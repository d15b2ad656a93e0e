/- errors.As: of nil, and of a node's error. -/
import Derived.Test.YtapmgonflgahbaaGreatDoorNode
import Derived.Stop.Asserts
import Derived.LaidEql
set_option linter.unusedVariables false
set_option maxHeartbeats 1600000
set_option maxRecDepth 100000
namespace Go.Proofs.YtapmgonflgahbaaGreatDoor
open _root_.Go.Proofs.Tryz
open Go.RowKit
variable{α:Type}
def bW(w:World):Prop:=0 < w.heap.size∧w.rangeAt 0 0 [.iface 292 (.agg #[.q Tryz.prog.globals.size 177])]
theorem rls(v x:Value):Go.Extern.ReflectliteValue.set #[v,x]=(do
  let (some (dst,a,fl),some (src,b,_)):=(←Go.Extern.ReflectliteValue.parts v,←Go.Extern.ReflectliteValue.parts x)
   | unsupported (.noEntry "extern/(internal/reflectlite.Value).Set.zeroValue")
  if fl/Go.Extern.ReflectliteValue.flagAddr%2==0 then unsupported (.noEntry "extern/(internal/reflectlite.Value).Set.unaddressable")
  let val ←loadVar src b
  if ←Go.Extern.Rtype.directlyAssignable dst src then storeVar dst a val
  else if ←Go.Extern.Rtype.implements dst src then
   if (←Go.Extern.Rtype.kind src)==20 then
    match val with
    | .nilIface=>unsupported (.noEntry "extern/reflectlite: a nil value of one interface type handed on as a value of another")
    | _=>storeVar dst a val
   else storeVar dst a (.iface src val)
  else panicString ("reflectlite.Set: value of type " ++ (←Go.Extern.Rtype.spelt src) ++ " is not assignable to type " ++ (←Go.Extern.Rtype.spelt dst))
  pure (.tuple #[])):=rfl
theorem Aj(b:Nat)(w:World):(Go.Extern.ReflectliteValue.parts (.agg #[.q Tryz.prog.globals.size 180,.q b 0,.int .u64 409])).run prog w = .ok (some (180,⟨b,0,none⟩,409)) w:=by kernel_rfl
theorem Ak(b:Nat)(w:World):(Go.Extern.ReflectliteValue.parts (.agg #[.q Tryz.prog.globals.size 180,.q b 0,.int .u64 153])).run prog w = .ok (some (180,⟨b,0,none⟩,153)) w:=by kernel_rfl
theorem Fe(w:World):(Go.Extern.Rtype.directlyAssignable 180 180).run prog w = .ok true w:=by kernel_rfl
theorem P6(t b:Nat)(n:Int)(e:Value){w:World}{x0 x1:Value}(hb:Bx w b #[.i n,e])(ht:Bx w t #[x0,x1])(he:e.oneCell'=true) :
  (Go.Extern.ReflectliteValue.set #[.agg #[.q Tryz.prog.globals.size 180,.q t 0,.int .u64 409],.agg #[.q Tryz.prog.globals.size 180,.q b 0,.int .u64 153]]).run prog w = .ok (.tuple #[]) (w.setCells t 0 [.i n,e]) ∧
   Ch t w (w.setCells t 0 [.i n,e])∧Bx (w.setCells t 0 [.i n,e]) t #[.i n,e]:=by
 refine⟨?_,(Ch.refl t w).setCells _ _,Bx.set ht _ rfl⟩;rw[rls];have h1:=run_loadVar_mid (P:=prog) w b 0 180 [.i n,e] _ (hb.range 0 2 rfl) underlying180 rfl (by kernel_rfl);have h2:=run_storeVar_mid (P:=prog) w t 0 180 #[.i n,e] (ht.there rfl) (by kernel_rfl) (by simp only[List.all_toArray,List.all_cons,List.all_nil,he,Bool.and_true]; rfl);have p1:=Aj t w;have p2:=Ak b w;have p3:=Fe w;have p4:(409/Go.Extern.ReflectliteValue.flagAddr%2==0)=false:=by decide
 generalize Tryz.prog.globals.size=g at p1 p2 ⊢;simp only[aiU,p1,p2,Result.andThen,p4,aj9,if_false,h1,p3,if_true];rw[h2];rfl
theorem aa1{ρ:Operand→Value}{o:Oper}{x y:Operand}{ts:Array TypeId}{u v V:Value}{w w1:World}(hop:o.op = .call { callee := .value (.func 252),args := #[x,y],argTypes:=ts })(hf:ρ (.func 252) = .func (.func 252) #[] #[])
  (hx:ρ x=u) (hy:ρ y=v) (hs:(Go.Extern.ReflectliteValue.set #[u,v]).run prog w = .ok V w1):(execOp ρ o).run prog w = .ok (.value V) w1:=by
 have h12:=@run_callFunc_extern prog 252 _ Go.Extern.ReflectliteValue.set func252 (by kernel_rfl) (by kernel_rfl) (by kernel_rfl) (by kernel_rfl);unfold execOp;rw[hop];simp[go_sem,hf,hx,hy,h12,hs]
theorem as_nil(t:Value)(w:World) :
  Calls prog 130 #[.nilIface,t] w fun e w'=>e = .returned (.z)∧w=w':=by
 skip;refine ahO func130 ntmps130 fun ac S=>ahK fun _ aY=>adr S 1 [] [(4,.z)] fun S=>ahJ<|aY _ _<|ah2 fun _ fA=>ahK fun _ jw=>adr S 2 [] [(9,.bool true)] fun S=>ahJ<|jw _ _<|ahV S<|ahK fun _ nT=>adr S 1 [] [(4,.z)] fun S=>ahJ<|nT _ _<|ahM S results130 ?_;exact⟨rfl,rfl⟩
theorem X9{w0 w:World}{n:Int}{e x0 x1:Value}{t b:Nat}(he:e.oneCell'=true)(hE:Ext w0 w)(ht:Bx w t #[x0,x1])(hb:w0.heap.size≤t)(hv:b<w.heap.size∧w.rangeAt b 0 [.q t 0]∧t≠b) :
  Calls prog 197 #[.iface 180 (.agg #[.i n,e]),.iface 182 (.q t 0),.agg #[.q Tryz.prog.globals.size 182,.q b 0,.int .u64 150],.iface 292 (.agg #[.q Tryz.prog.globals.size 180])] w fun ev w'=>ev = .returned (.bool true)∧Ext w0 w'∧Ch t w w'∧Bx w' t #[.i n,e]:=by
 skip;refine Sx.vJ func197 ntmps197 hE ht hb (fun ac S=>?_);have S:=S.view hv.1 hv.2.1 (fun p hp=>by obtain rfl:=akb.1 hp; exact hv.2.2);refine ahK fun _ aY=>ahL S 6 [.q Tryz.prog.globals.size 182,.q b 0,.int .u64 150] fun ac u b2 E3 hb4 S=>adr S 1 [] [(8,.z)] fun S=>ahJ<|aY _ _<|ah5<|ajo 1 ?_;rw[aio];refine ah5<|ah2 fun _ dw=>ahK fun _ iT=>adr S 4 [] [(19,.bool true)] fun S=>ahJ<|iT _ _<|ahV S<|ahK fun _ iL=>adr S 3 [.mem 0 0,.XG [(2,0)]] [(21,.agg #[.q Tryz.prog.globals.size 180,.q t 0,.int .u64 409]),(22,.iface 180 (.agg #[.i n,e]))] fun S=>Sx.new S 23 [.i n,e] (fun b => .agg #[.q Tryz.prog.globals.size 180,.q b 0,.int .u64 153]) (fun ac u b8 E9 Dx S=>?_);have hs:=P6 t b8 n e (w:=u) (S.bx 0) (S.bx 2) he;refine Sx.wrote S 2 [.i n,e] (.tuple #[]) (some 24) rfl rfl rfl rfl ?_ hs.2.1 hs.2.2 (ni S.E hb _ _) (fun ac S=>?_)
 ·exact aa1 rfl rfl (S.s.has 21 _ rfl) (S.s.has 23 _ rfl) hs.1
 have Kz:=Ch.trans (Ch.trans (Ch.refl t w) (Ch.iE (Ext.trans' E3 E9))) hs.2.1;refine ahJ<|iL _ _<|ahK fun _ gU=>adr S 1 [] [(8,.bool true)] fun S=>ahJ<|gU _ _<|ahM S results197 ?_;exact⟨rfl,S.E,Kz,S.bx 2⟩
theorem bW.below{w w':World}(h:bW w)(hE:Ext w w'):bW w':=⟨aiG h.1 hE.size,Vp.qh h.2 h.1 hE⟩
theorem as_hit{w0 w:World}{n:Int}{e x0 x1:Value}{t:Nat}(he:e.oneCell'=true)(hE:Ext w0 w)(ht:Bx w t #[x0,x1])(hb:w0.heap.size≤t)(hg:bW w0) :
  Calls prog 130 #[.iface 180 (.agg #[.i n,e]),.iface 182 (.q t 0)] w fun ev w'=>ev = .returned (.bool true)∧Ext w0 w'∧Ch t w w'∧Bx w' t #[.i n,e]:=by
 skip;refine Sx.vJ func130 ntmps130 hE ht hb (fun ac S=>?_);have S:=S.view0 hg.1 hg.2;refine ahK fun _ aY=>adr S 1 [] [(4,.z)] fun S=>ahJ<|aY _ _<|ah2 fun _ fA=>ahK fun _ jw=>adr S 2 [] [(9,.z)] fun S=>ahJ<|jw _ _<|ahX S<|ah4<|fA _ _<|ah2 fun _ nT=>ahK fun _ dw=>adr S 2 [] [(11,.z)] fun S=>ahJ<|dw _ _<|ahX S<|ah4<|nT _ _<|ahK fun _ iT=>adr S 1 [] [(13,.iface 182 (.q t 0))] fun S=>Sx.new S 14 [.q t 0] (fun b => .agg #[.q Tryz.prog.globals.size 182,.q b 0,.int .u64 150]) fun ac u b7 E8 hb9 S=>ahL S 5 [.pointer none,.pointer none,.int .u64 0] fun ac u b10 wL PW S=>ahP S 0 (off:=0) (cs:=[.q Tryz.prog.globals.size 182,.q b7 0,.int .u64 150]) rfl (fun u C13 S=>?_);have yO:=ahR (Ext.trans' E8 wL) C13 (by have:=E8.size; omega);refine ahJ<|iT _ _<|ahK fun _ iJ=>adr S 3 [.mem 0 0] [(6,.iface 292 (.agg #[.q Tryz.prog.globals.size 182]))] fun S=>ahJ<|iJ _ _<|ah2 fun _ jQ=>ahK fun _ iq=>adr S 7 [.mem 0 0,.XG [(1,0)]] [(23,.z)] fun S=>ahJ<|iq _ _<|ahX S<|ah4<|jQ _ _<|ahK fun _ jy=>adr S 3 [] [(7,.iface 292 (.agg #[.q Tryz.prog.globals.size 180]))] fun S=>ahJ<|jy _ _<|ah2 fun _ kX=>ahK fun _ kP=>adr S 9 [.mem 3 0] [(35,.z)] fun S=>ahJ<|kP _ _<|ahX S<|ah4<|kX _ _<|ahK fun _ mX=>adr S 4 [.mem 0 0] [(37,.iface 180 (.agg #[.i n,e])),(38,.iface 182 (.q t 0)),(39,.agg #[.q Tryz.prog.globals.size 182,.q b7 0,.int .u64 150]),(40,.iface 292 (.agg #[.q Tryz.prog.globals.size 180]))] (fun S=>?_);have hlt:=(S.bx 1).1;refine Sx.mW S 2 [.i n,e] (some 41) rfl (X9 (n:=n) (t:=t) (b:=b7) he S.E (S.bx 2) hb ⟨(S.bx 1).1,(S.bx 1).range 0 1 rfl,S.ne (i:=2) (j:=1) rfl rfl (by decide)⟩) ?_;rintro e u ⟨rfl,ae9,adl,afa⟩;refine⟨_,rfl,ae9,adl,afa,fun ac S=>?_⟩;have F23:=Ch.trans (Ch.trans (Ch.refl t w) (Ch.iE yO)) adl;refine adr S 1 [] [(4,.bool true)] fun S=>ahJ<|mX _ _<|ahM S results130 ?_;exact⟨rfl,S.E,F23,S.bx 2⟩
open Go.RowKit
variable{α:Type}{K:Nat}
def lS:List (Bool×Int)→Int
 | []=>0
 | p::l=>if p.1=true then p.2 else lS l
def badL(l:List (Bool×Int)):Bool:=l.any (·.1)
abbrev fB (n:Int)(e:Value):Value := .iface 180 (.agg #[.i n,e])
theorem qG:∀l:List (Bool×Int),(badL l=false∧jm l = .nilIface∧lS l=0)∨(badL l=true∧∃n,jm l=fB 0 (fB n .nilIface)∧lS l=n)
 | [] => .inl ⟨rfl,rfl,rfl⟩
 | p::l=>by
  unfold jm lS badL
  rw[List.any_cons]
  cases hp:p.1 with
  | true=>exact .inr ⟨rfl,p.2,aib rfl,aib rfl⟩
  | false =>
   rw[ah7 (by simp),ah7 (by simp),Bool.false_or]
   exact qG l
def aA.mF(nd:aA):Int:=cond ((nd.kind)==1) (lS [((!(decide (1≤nd.blend)&&decide (nd.blend≤13))),2)]) (cond ((nd.kind)==2) (lS nd.pU) ((lS [(!(nd.img.valid),16),(((nd.bQ) != 1)&&((nd.bQ) != 2),2)])))
def aA.checkN(nd:aA):Int:=_root_.cond (badL nd.jo) (lS nd.jo) nd.mF
theorem KG(nd:aA):(nd.Fg = .nilIface∧nd.mF=0)∨(nd.Fg=fB nd.mF .nilIface)∨(nd.Fg=fB 0 (fB nd.mF .nilIface)):=by
 have hL:∀l,(jm l = .nilIface∧lS l=0)∨(jm l=fB (lS l) .nilIface)∨(jm l=fB 0 (fB (lS l) .nilIface)):=by
  intro l;rcases qG l with ⟨_,h1,h2⟩ | ⟨_,n,h1,h2⟩
  ·exact .inl ⟨h1,h2⟩
  exact .inr (.inr (by rw[h1,h2]))
 have hW:∀b n,(bT b n = .nilIface∧lS [(b,n)]=0)∨(bT b n=fB (lS [(b,n)]) .nilIface)∨(bT b n=fB 0 (fB (lS [(b,n)]) .nilIface)):=by
  intro b n;cases b<;>simp[bT,lS]
 unfold aA.Fg aA.mF aA.Am;cases h1:nd.kind==1
 ·cases h2:nd.kind==2
  ·exact hL _
  exact hL _
 exact hW _ _
theorem uP{w:World}{nd:aA}(h:eF K w nd)(hg:bW w) :
  Calls prog 67 #[nd.v] w fun e w'=>e = .returned (.i nd.checkN)∧Ext w w':=by
 skip;refine ahO func67 ntmps67 fun ac S=>ahK fun _ aY=>ahL S 1 nd.cells fun ac u b2 E3 hb4 S=>adr S 1 [] [(2,.i 0)] fun S=>ahJ<|aY _ _<|ahK fun _ dw=>adr S 1 [.mem 0 0] [(6,nd.v)] fun S=>ahS S 7 (KH (h.below S.E)) fun ac u E6 S=>adr S 1 [] [(3,nd.wM)] (fun S=>?_);rcases qG nd.jo with ⟨hb,he,hc⟩ | ⟨hb,n,he,hc⟩
 ·rw[show nd.wM = .nilIface from he]at S;refine ahJ<|dw _ _<|ah2 fun _ iL=>ahK fun _ dR=>adr S 2 [] [(9,.bool true)] fun S=>ahJ<|dR _ _<|ahV S<|aia<|adr S 1 [.mem 0 0] [(10,nd.v)] fun S=>ahS S 11 (H8 (h.below S.E)) fun ac u E9 S=>adr S 1 [] [(3,nd.Fg)] (fun S=>?_);rcases KG nd with ⟨ho,hn⟩ | ho | ho
  ·rw[ho]at S;refine ahJ<|iL _ _<|ahK fun _ gu=>adr S 1 [] [(4,.i 0)] fun S=>ahJ<|gu _ _<|ahK fun _ dO=>ahL S 5 [.i 0,.nilIface] fun ac u b12 Nz aaN S=>ahJ<|dO _ _<|ah2 fun _ iJ=>ah5<|ajo 4 ?_;rw[aio];refine ah2 fun _ jQ=>ahK fun _ iq=>adr S 2 [] [(12,.nilIface),(13,.iface 182 (.q b12 0))] fun S=>Sx.calls S 14 (as_nil (.iface 182 (.q b12 0)) _) fun ac S=>ahJ<|iq _ _<|ahX S<|ail<|iJ _ _<|ahK fun _ jy=>adr S 2 [] [(2,.i 0)] fun S=>ahJ<|jy _ _<|ahM S results67 ?_;exact⟨by unfold aA.checkN; rw[hb]; simp only[_root_.cond]; rw[hn],S.E⟩
  ·rw[ho]at S;refine ahJ<|iL _ _<|ahK fun _ kX=>adr S 1 [] [(4,.i 0)] fun S=>ahJ<|kX _ _<|ahK fun _ kP=>ahL S 5 [.i 0,.nilIface] fun ac u b21 TK Ya S=>ahJ<|kP _ _<|ah2 fun _ rX=>ah5<|ajo 4 ?_;rw[aio];refine ah2 fun _ vI=>ahK fun _ jA=>adr S 2 [] [(12,fB nd.mF .nilIface),(13,.iface 182 (.q b21 0))] fun S=>Sx.mW S 0 [.i nd.mF,.nilIface] (some 14) rfl (as_hit (n:=nd.mF) (e := .nilIface) rfl S.E (S.bx 0) (S.old 0) hg) ?_;rintro e u ⟨rfl,afb,afc,afd⟩;refine⟨_,rfl,afb,afc,afd,fun ac S=>?_⟩;refine ahJ<|jA _ _<|ahV S<|ah4<|vI _ _<|ah5<|ahW S 5 [.mem 0 0,.mem 0 1] [] [(4,.i nd.mF),(18,.nilIface)] trivial fun ac u E28 S=>adr S 1 [] [(3,.nilIface)] fun S=>ahJ ?_;show Code.rounds _ _ _ 3 _ _;rw[aio];refine ah2 fun _ uJ=>ahK fun _ oJ=>adr S 2 [] [(12,.nilIface),(13,.iface 182 (.q b21 0))] fun S=>Sx.calls S 14 (as_nil (.iface 182 (.q b21 0)) _) fun ac S=>ahJ<|oJ _ _<|ahX S<|ail<|rX _ _<|ahK fun _ qj=>adr S 2 [] [(2,.i nd.mF)] fun S=>ahJ<|qj _ _<|ahM S results67 ?_;exact⟨by unfold aA.checkN; rw[hb]; simp only[_root_.cond],S.E⟩
  rw[ho]at S;refine ahJ<|iL _ _<|ahK fun _ mG=>adr S 1 [] [(4,.i 0)] fun S=>ahJ<|mG _ _<|ahK fun _ kD=>ahL S 5 [.i 0,.nilIface] fun ac u XH Ky TL S=>ahJ<|kD _ _<|ah2 fun _ mD=>ah5<|ajo 4 ?_;rw[aio];refine ah2 fun _ lq=>ahK fun _ wJ=>adr S 2 [] [(12,fB 0 (fB nd.mF .nilIface)),(13,.iface 182 (.q XH 0))] fun S=>Sx.mW S 0 [.i 0,fB nd.mF .nilIface] (some 14) rfl (as_hit (n:=0) (e:=fB nd.mF .nilIface) rfl S.E (S.bx 0) (S.old 0) hg) ?_;rintro e u ⟨rfl,afe,aff,afg⟩;refine⟨_,rfl,afe,aff,afg,fun ac S=>?_⟩;refine ahJ<|wJ _ _<|ahV S<|ah4<|lq _ _<|ah5<|ahW S 5 [.mem 0 0,.mem 0 1] [] [(4,.i 0),(18,fB nd.mF .nilIface)] trivial fun ac u Z8 S=>adr S 1 [] [(3,fB nd.mF .nilIface)] fun S=>ahJ ?_;show Code.rounds _ _ _ 3 _ _;rw[aio];refine ah2 fun _ vC=>ahK fun _ vF=>adr S 2 [] [(12,fB nd.mF .nilIface),(13,.iface 182 (.q XH 0))] fun S=>Sx.mW S 0 [.i nd.mF,.nilIface] (some 14) rfl (as_hit (n:=nd.mF) (e := .nilIface) rfl S.E (S.bx 0) (S.old 0) hg) ?_;rintro e u ⟨rfl,afh,afi,afj⟩;refine⟨_,rfl,afh,afi,afj,fun ac S=>?_⟩;refine ahJ<|vF _ _<|ahV S<|ah4<|vC _ _<|ah5<|ahW S 5 [.mem 0 0,.mem 0 1] [] [(4,.i nd.mF),(18,.nilIface)] trivial fun ac u Z4 S=>adr S 1 [] [(3,.nilIface)] fun S=>ahJ ?_;show Code.rounds _ _ _ 2 _ _;rw[aio];refine ah2 fun _ zB=>ahK fun _ Hu=>adr S 2 [] [(12,.nilIface),(13,.iface 182 (.q XH 0))] fun S=>Sx.calls S 14 (as_nil (.iface 182 (.q XH 0)) _) fun ac S=>ahJ<|Hu _ _<|ahX S<|ail<|mD _ _<|ahK fun _ zC=>adr S 2 [] [(2,.i nd.mF)] fun S=>ahJ<|zC _ _<|ahM S results67 ?_;exact⟨by unfold aA.checkN; rw[hb]; simp only[_root_.cond],S.E⟩
 rw[show nd.wM=fB 0 (fB n .nilIface)from he]at S;refine ahJ<|dw _ _<|ah2 fun _ Af=>ahK fun _ zD=>adr S 2 [] [(9,.z)] fun S=>ahJ<|zD _ _<|ahX S<|ah4<|Af _ _<|ahK fun _ TM=>adr S 1 [] [(4,.i 0)] fun S=>ahJ<|TM _ _<|ahK fun _ TN=>ahL S 5 [.i 0,.nilIface] fun ac u b53 E54 ahf S=>ahJ<|TN _ _<|ah2 fun _ Ad=>ah5<|ajo 4 ?_;rw[aio];refine ah2 fun _ KD=>ahK fun _ TP=>adr S 2 [] [(12,fB 0 (fB n .nilIface)),(13,.iface 182 (.q b53 0))] fun S=>Sx.mW S 0 [.i 0,fB n .nilIface] (some 14) rfl (as_hit (n:=0) (e:=fB n .nilIface) rfl S.E (S.bx 0) (S.old 0) hg) ?_;rintro e u ⟨rfl,afk,afl,afm⟩;refine⟨_,rfl,afk,afl,afm,fun ac S=>?_⟩;refine ahJ<|TP _ _<|ahV S<|ah4<|KD _ _<|ah5<|ahW S 5 [.mem 0 0,.mem 0 1] [] [(4,.i 0),(18,fB n .nilIface)] trivial fun ac u E60 S=>adr S 1 [] [(3,fB n .nilIface)] fun S=>ahJ ?_;show Code.rounds _ _ _ 3 _ _;rw[aio];refine ah2 fun _ Tm=>ahK fun _ aaP=>adr S 2 [] [(12,fB n .nilIface),(13,.iface 182 (.q b53 0))] fun S=>Sx.mW S 0 [.i n,.nilIface] (some 14) rfl (as_hit (n:=n) (e := .nilIface) rfl S.E (S.bx 0) (S.old 0) hg) ?_;rintro e u ⟨rfl,afn,afo,afp⟩;refine⟨_,rfl,afn,afo,afp,fun ac S=>?_⟩;refine ahJ<|aaP _ _<|ahV S<|ah4<|Tm _ _<|ah5<|ahW S 5 [.mem 0 0,.mem 0 1] [] [(4,.i n),(18,.nilIface)] trivial fun ac u E64 S=>adr S 1 [] [(3,.nilIface)] fun S=>ahJ ?_;show Code.rounds _ _ _ 2 _ _;rw[aio];refine ah2 fun _ ahg=>ahK fun _ afq=>adr S 2 [] [(12,.nilIface),(13,.iface 182 (.q b53 0))] fun S=>Sx.calls S 14 (as_nil (.iface 182 (.q b53 0)) _) fun ac S=>ahJ<|afq _ _<|ahX S<|ail<|Ad _ _<|ahK fun _ Tv=>adr S 2 [] [(2,.i n)] fun S=>ahJ<|Tv _ _<|ahM S results67 ?_;exact⟨by unfold aA.checkN; rw[hb]; simp only[_root_.cond]; rw[hc],S.E⟩
theorem iF{w:World}{nd:aA}(h:eF K w nd)(hg:bW w) :
  Calls prog 27 #[nd.v] w fun e w'=>e = .returned (.bool (nd.checkN==0))∧Ext w w':=by
 skip;refine ahO func27 ntmps27 fun ac S=>ahK fun _ aY=>ahL S 1 nd.cells fun ac u b2 E3 hb4 S=>adr S 1 [] [(2,.z)] fun S=>ahJ<|aY _ _<|ahK fun _ dw=>adr S 1 [.mem 0 0] [(3,nd.v)] fun S=>ahS S 4 (uP (h.below S.E) (hg.below S.E)) fun ac u E6 S=>adr S 2 [] [(2,.bool ((nd.checkN)==0))] fun S=>ahJ<|dw _ _<|ahM S results27 ?_;exact⟨rfl,S.E⟩
open Go.RowKit
variable{α:Type}{K:Nat}
theorem aB.P7{base:Nat}{w:World}{v:Value}{q:Bool×Nat×Nat}(h:dB base w v q):∃r:bP,v=r.v∧r.ok w∧r.n1=q.1∧r.l1=Na.ak q.2.1∧r.n2=false∧r.l2=Na.ak q.2.2:=by
 obtain⟨s,t,rfl,hs,ht,_⟩:=h;have hs':=hs;have ht':=ht;obtain⟨a1,c1,rfl,_⟩:=hs;obtain⟨a2,c2,rfl,_⟩:=ht;exact⟨⟨q.1,a1,c1,Na.ak q.2.1,false,a2,c2,Na.ak q.2.2⟩,rfl,⟨hs',ht'⟩,rfl,rfl,rfl,rfl⟩
def rZ:aA:=⟨0,0,0,bn.none,none,0,[],0,0,0,false,false,none,0,[],0,none,0,[],aZ.bare,none,0,[],cZ.bare,0⟩
theorem H9(w:World):su w (.sn) []:=⟨jC _ _ _,fun s hs=>by cases hs⟩
theorem Ap(w:World):jf w (.sn) []:=⟨jC _ _ _,fun s hs=>by cases hs⟩
theorem xZ(w:World)(hK:1≤K)(hK2:K≤10000):eF K w rZ:=
 ⟨⟨jq,jq,jq,bn.fP w,H9 w,jq,jq,H9 w,jq,Ap w,aZ.lJ w,Ap w,cZ.lJ w,jq⟩,bn.gW K,fun p hp=>(by cases hp),fun p hp=>(by cases hp),hK,hK2⟩
end Go.Proofs.YtapmgonflgahbaaGreatDoor
