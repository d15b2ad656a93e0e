/- errors.As: of nil, and of a node's error. -/
import Derived.Test.YtfmkkemfhjkajaaGreatDoorNode
import Derived.Stop.Asserts
import Derived.LaidEql
set_option linter.unusedVariables false
set_option maxHeartbeats 1600000
set_option maxRecDepth 100000
namespace Go.Proofs.YtfmkkemfhjkajaaGreatDoor
open Go.RowKit
variable{α:Type}
def jX(w:World):Prop:=0 < w.heap.size∧w.rangeAt 0 0 [.iface 174 (.agg #[.pointer (some ⟨Tryz.prog.globals.size,108,none⟩)])]
theorem rls(v x:Value):Go.Extern.ReflectliteValue.set #[v,x]=(do
  let (some (dst,a,fl),some (src,b,_)):=(←Go.Extern.ReflectliteValue.parts v,←Go.Extern.ReflectliteValue.parts x)
   | unsupported (.noEntry "extern/(internal/reflectlite.Value).Set.zeroValue")
  if fl/Go.Extern.ReflectliteValue.flagAddr%2==0 then unsupported (.noEntry "extern/(internal/reflectlite.Value).Set.unaddressable")
  let val ←loadVar src b
  if ←Go.Extern.Rtype.directlyAssignable dst src then storeVar dst a val
  else if ←Go.Extern.Rtype.implements dst src then
   if (←Go.Extern.Rtype.kind src)==20 then
    match val with
    | .nilIface=>unsupported (.noEntry "extern/reflectlite: a nil value of one interface type handed on as a value of another")
    | _=>storeVar dst a val
   else storeVar dst a (.iface src val)
  else panicString ("reflectlite.Set: value of type " ++ (←Go.Extern.Rtype.spelt src) ++ " is not assignable to type " ++ (←Go.Extern.Rtype.spelt dst))
  pure (.tuple #[])):=rfl
theorem EX(b:Nat)(w:World):(Go.Extern.ReflectliteValue.parts (.agg #[.pointer (some ⟨Tryz.prog.globals.size,111,none⟩),.pointer (some ⟨b,0,none⟩),.int .u64 409])).run Tryz.prog w = .ok (some (111,⟨b,0,none⟩,409)) w:=by kernel_rfl
theorem EY(b:Nat)(w:World):(Go.Extern.ReflectliteValue.parts (.agg #[.pointer (some ⟨Tryz.prog.globals.size,111,none⟩),.pointer (some ⟨b,0,none⟩),.int .u64 153])).run Tryz.prog w = .ok (some (111,⟨b,0,none⟩,153)) w:=by kernel_rfl
theorem KF(w:World):(Go.Extern.Rtype.directlyAssignable 111 111).run Tryz.prog w = .ok true w:=by kernel_rfl
theorem WB(t b:Nat)(n:Int)(e:Value){w:World}{x0 x1:Value}(hb:Bx w b #[.i n,e])(ht:Bx w t #[x0,x1])(he:e.oneCell'=true) :
  (Go.Extern.ReflectliteValue.set #[.agg #[.pointer (some ⟨Tryz.prog.globals.size,111,none⟩),.pointer (some ⟨t,0,none⟩),.int .u64 409],.agg #[.pointer (some ⟨Tryz.prog.globals.size,111,none⟩),.pointer (some ⟨b,0,none⟩),.int .u64 153]]).run Tryz.prog w = .ok (.tuple #[]) (w.setCells t 0 [.i n,e]) ∧
   Ch t w (w.setCells t 0 [.i n,e])∧Bx (w.setCells t 0 [.i n,e]) t #[.i n,e]:=by
 refine⟨?_,(Ch.refl t w).setCells _ _,Bx.set ht _ rfl⟩;rw[rls];have h1:=run_loadVar_mid (P:=Tryz.prog) w b 0 111 [.i n,e] _ (hb.range 0 2 rfl) Tryz.underlying111 rfl (by kernel_rfl);have h2:=run_storeVar_mid (P:=Tryz.prog) w t 0 111 #[.i n,e] (ht.there rfl) (by kernel_rfl) (by simp only[List.all_toArray,List.all_cons,List.all_nil,he,Bool.and_true]; rfl);have p1:=EX t w;have p2:=EY b w;have p3:=KF w;have p4:(409/Go.Extern.ReflectliteValue.flagAddr%2==0)=false:=by decide
 generalize Tryz.prog.globals.size=g at p1 p2 ⊢;simp only[Sem.run_bind,p1,p2,Result.andThen,p4,Bool.false_eq_true,if_false,h1,p3,if_true];rw[h2];rfl
theorem adU{ρ:Operand→Value}{o:Oper}{x y:Operand}{ts:Array TypeId}{u v V:Value}{w w1:World}(hop:o.op = .call { callee := .value (.func 163),args := #[x,y],argTypes:=ts })(hf:ρ (.func 163) = .func (.func 163) #[] #[])
  (hx:ρ x=u) (hy:ρ y=v) (hs:(Go.Extern.ReflectliteValue.set #[u,v]).run Tryz.prog w = .ok V w1):(execOp ρ o).run Tryz.prog w = .ok (.value V) w1:=by
 have h12:=@run_callFunc_extern Tryz.prog 163 _ Go.Extern.ReflectliteValue.set Tryz.func163 (by kernel_rfl) (by kernel_rfl) (by kernel_rfl) (by kernel_rfl);unfold execOp;rw[hop];simp[go_sem,hf,hx,hy,h12,hs]
theorem as_nil(t:Value)(w:World) :
  Calls Tryz.prog 89 #[.nilIface,t] w fun e w'=>e = .returned (.bool false)∧w=w':=by
 skip;refine akk Tryz.func89 Tryz.ntmps89 fun ac S=>akg fun _ aP=>adr S 1 [] [(4,.bool false)] fun S=>akf<|aP _ _<|wp_seq_k fun _ fE=>akg fun _ iM=>adr S 2 [] [(9,.bool true)] fun S=>akf<|iM _ _<|akq S<|akg fun _ lX=>adr S 1 [] [(4,.bool false)] fun S=>akf<|lX _ _<|akj S Tryz.results89 ?_;exact⟨rfl,rfl⟩
theorem ab6{w0 w:World}{n:Int}{e x0 x1:Value}{t b:Nat}(he:e.oneCell'=true)(hE:Ext w0 w)(ht:Bx w t #[x0,x1])(hb:w0.heap.size≤t)(hv:b<w.heap.size∧w.rangeAt b 0 [.pointer (some ⟨t,0,none⟩)]∧t≠b) :
  Calls Tryz.prog 125 #[.iface 111 (.agg #[.i n,e]),.iface 113 (.pointer (some ⟨t,0,none⟩)),.agg #[.pointer (some ⟨Tryz.prog.globals.size,113,none⟩),.pointer (some ⟨b,0,none⟩),.int .u64 150],.iface 174 (.agg #[.pointer (some ⟨Tryz.prog.globals.size,111,none⟩)])] w fun ev w'=>ev = .returned (.bool true)∧Ext w0 w'∧Ch t w w'∧Bx w' t #[.i n,e]:=by
 skip;refine Sx.QT Tryz.func125 Tryz.ntmps125 hE ht hb (fun ac S=>?_);have S:=S.view hv.1 hv.2.1 (fun p hp=>by obtain rfl:=List.mem_singleton.1 hp; exact hv.2.2);refine akg fun _ aP=>akh S 6 [.pointer (some ⟨Tryz.prog.globals.size,113,none⟩),.pointer (some ⟨b,0,none⟩),.int .u64 150] fun ac u b2 E3 hb4 S=>adr S 1 [] [(8,.bool false)] fun S=>akf<|aP _ _<|wp_block<|wp_loop_rounds 1 ?_;rw[rounds_succ];refine wp_block<|wp_seq_k fun _ dG=>akg fun _ jl=>adr S 4 [] [(19,.bool true)] fun S=>akf<|jl _ _<|akq S<|akg fun _ jT=>adr S 3 [.mem 0 0,.lds [(2,0)]] [(21,.agg #[.pointer (some ⟨Tryz.prog.globals.size,111,none⟩),.pointer (some ⟨t,0,none⟩),.int .u64 409]),(22,.iface 111 (.agg #[.i n,e]))] fun S=>Sx.new S 23 [.i n,e] (fun b => .agg #[.pointer (some ⟨Tryz.prog.globals.size,111,none⟩),.pointer (some ⟨b,0,none⟩),.int .u64 153]) (fun ac u b8 E9 vS S=>?_);have hs:=WB t b8 n e (w:=u) (S.bx 0) (S.bx 2) he;refine Sx.wrote S 2 [.i n,e] (.tuple #[]) (some 24) rfl rfl rfl rfl ?_ hs.2.1 hs.2.2 (qW S.E hb _ _) (fun ac S=>?_)
 ·exact adU rfl rfl (S.s.has 21 _ rfl) (S.s.has 23 _ rfl) hs.1
 have NI:=Ch.trans (Ch.trans (Ch.refl t w) (Ch.rX (Ext.trans' E3 E9))) hs.2.1;refine akf<|jT _ _<|akg fun _ fC=>adr S 1 [] [(8,.bool true)] fun S=>akf<|fC _ _<|akj S Tryz.results125 ?_;exact⟨rfl,S.E,NI,S.bx 2⟩
theorem jX.below{w w':World}(h:jX w)(hE:Ext w w'):jX w':=⟨Nat.lt_of_lt_of_le h.1 hE.size,Vp.yJ h.2 h.1 hE⟩
theorem as_hit{w0 w:World}{n:Int}{e x0 x1:Value}{t:Nat}(he:e.oneCell'=true)(hE:Ext w0 w)(ht:Bx w t #[x0,x1])(hb:w0.heap.size≤t)(hg:jX w0) :
  Calls Tryz.prog 89 #[.iface 111 (.agg #[.i n,e]),.iface 113 (.pointer (some ⟨t,0,none⟩))] w fun ev w'=>ev = .returned (.bool true)∧Ext w0 w'∧Ch t w w'∧Bx w' t #[.i n,e]:=by
 skip;refine Sx.QT Tryz.func89 Tryz.ntmps89 hE ht hb (fun ac S=>?_);have S:=S.view0 hg.1 hg.2;refine akg fun _ aP=>adr S 1 [] [(4,.bool false)] fun S=>akf<|aP _ _<|wp_seq_k fun _ fE=>akg fun _ iM=>adr S 2 [] [(9,.bool false)] fun S=>akf<|iM _ _<|akz S<|wp_skip<|fE _ _<|wp_seq_k fun _ lX=>akg fun _ dG=>adr S 2 [] [(11,.bool false)] fun S=>akf<|dG _ _<|akz S<|wp_skip<|lX _ _<|akg fun _ jl=>adr S 1 [] [(13,.iface 113 (.pointer (some ⟨t,0,none⟩)))] fun S=>Sx.new S 14 [.pointer (some ⟨t,0,none⟩)] (fun b => .agg #[.pointer (some ⟨Tryz.prog.globals.size,113,none⟩),.pointer (some ⟨b,0,none⟩),.int .u64 150]) fun ac u b7 E8 hb9 S=>akh S 5 [.pointer none,.pointer none,.int .u64 0] fun ac u b10 xA QU S=>akl S 0 (off:=0) (cs:=[.pointer (some ⟨Tryz.prog.globals.size,113,none⟩),.pointer (some ⟨b7,0,none⟩),.int .u64 150]) rfl (fun u C13 S=>?_);have Es:=akp (Ext.trans' E8 xA) C13 (by have:=E8.size; omega);refine akf<|jl _ _<|akg fun _ fP=>adr S 3 [.mem 0 0] [(6,.iface 174 (.agg #[.pointer (some ⟨Tryz.prog.globals.size,113,none⟩)]))] fun S=>akf<|fP _ _<|wp_seq_k fun _ jH=>akg fun _ gI=>adr S 7 [.mem 0 0,.lds [(1,0)]] [(23,.bool false)] fun S=>akf<|gI _ _<|akz S<|wp_skip<|jH _ _<|akg fun _ jm=>adr S 3 [] [(7,.iface 174 (.agg #[.pointer (some ⟨Tryz.prog.globals.size,111,none⟩)]))] fun S=>akf<|jm _ _<|wp_seq_k fun _ jI=>akg fun _ iT=>adr S 9 [.mem 3 0] [(35,.bool false)] fun S=>akf<|iT _ _<|akz S<|wp_skip<|jI _ _<|akg fun _ jJ=>adr S 4 [.mem 0 0] [(37,.iface 111 (.agg #[.i n,e])),(38,.iface 113 (.pointer (some ⟨t,0,none⟩))),(39,.agg #[.pointer (some ⟨Tryz.prog.globals.size,113,none⟩),.pointer (some ⟨b7,0,none⟩),.int .u64 150]),(40,.iface 174 (.agg #[.pointer (some ⟨Tryz.prog.globals.size,111,none⟩)]))] (fun S=>?_);have hlt:=(S.bx 1).1;refine Sx.Jq S 2 [.i n,e] (some 41) rfl (ab6 (n:=n) (t:=t) (b:=b7) he S.E (S.bx 2) hb ⟨(S.bx 1).1,(S.bx 1).range 0 1 rfl,S.ne (i:=2) (j:=1) rfl rfl (by decide)⟩) ?_;rintro e u ⟨rfl,ahq,afO,ahr⟩;refine⟨_,rfl,ahq,afO,ahr,fun ac S=>?_⟩;have UQ:=Ch.trans (Ch.trans (Ch.refl t w) (Ch.rX Es)) afO;refine adr S 1 [] [(4,.bool true)] fun S=>akf<|jJ _ _<|akj S Tryz.results89 ?_;exact⟨rfl,S.E,UQ,S.bx 2⟩
open Go.RowKit
variable{α:Type}{K:Nat}
def kP:List (Bool×Int)→Int
 | []=>0
 | p::l=>if p.1=true then p.2 else kP l
def badL(l:List (Bool×Int)):Bool:=l.any (·.1)
abbrev gV (n:Int)(e:Value):Value := .iface 111 (.agg #[.i n,e])
theorem vT:∀l:List (Bool×Int),(badL l=false∧kM l = .nilIface∧kP l=0)∨(badL l=true∧∃n,kM l=gV 0 (gV n .nilIface)∧kP l=n)
 | [] => .inl ⟨rfl,rfl,rfl⟩
 | p::l=>by
  unfold kM kP badL
  rw[List.any_cons]
  cases hp:p.1 with
  | true=>exact .inr ⟨rfl,p.2,if_pos rfl,if_pos rfl⟩
  | false =>
   rw[if_neg (by simp),if_neg (by simp),Bool.false_or]
   exact vT l
def aj.qH(nd:aj):Int:=cond ((nd.kind)==1) (kP [((!(decide (1≤nd.blend)&&decide (nd.blend≤13))),2)]) (cond ((nd.kind)==2) (kP nd.vU) ((kP [(!(nd.img.valid),16),(((nd.bQ) != 1)&&((nd.bQ) != 2),2)])))
def aj.checkN(nd:aj):Int:=_root_.cond (badL nd.gZ) (kP nd.gZ) nd.qH
theorem QV(nd:aj):(nd.KG = .nilIface∧nd.qH=0)∨(nd.KG=gV nd.qH .nilIface)∨(nd.KG=gV 0 (gV nd.qH .nilIface)):=by
 have hL:∀l,(kM l = .nilIface∧kP l=0)∨(kM l=gV (kP l) .nilIface)∨(kM l=gV 0 (gV (kP l) .nilIface)):=by
  intro l;rcases vT l with ⟨_,h1,h2⟩ | ⟨_,n,h1,h2⟩
  ·exact .inl ⟨h1,h2⟩
  exact .inr (.inr (by rw[h1,h2]))
 have hW:∀b n,(dI b n = .nilIface∧kP [(b,n)]=0)∨(dI b n=gV (kP [(b,n)]) .nilIface)∨(dI b n=gV 0 (gV (kP [(b,n)]) .nilIface)):=by
  intro b n;cases b<;>simp[dI,kP]
 unfold aj.KG aj.qH aj.EZ;cases h1:nd.kind==1
 ·cases h2:nd.kind==2
  ·exact hL _
  exact hL _
 exact hW _ _
theorem IY{w:World}{nd:aj}(h:eF K w nd)(hg:jX w) :
  Calls Tryz.prog 54 #[nd.v] w fun e w'=>e = .returned (.i nd.checkN)∧Ext w w':=by
 skip;refine akk Tryz.func54 Tryz.ntmps54 fun ac S=>akg fun _ aP=>akh S 1 nd.cells fun ac u b2 E3 hb4 S=>adr S 1 [] [(2,.i 0)] fun S=>akf<|aP _ _<|akg fun _ dG=>adr S 1 [.mem 0 0] [(6,nd.v)] fun S=>akn S 7 (QW (h.below S.E)) fun ac u E6 S=>adr S 1 [] [(3,nd.AZ)] (fun S=>?_);rcases vT nd.gZ with ⟨hb,he,hc⟩ | ⟨hb,n,he,hc⟩
 ·rw[show nd.AZ = .nilIface from he]at S;refine akf<|dG _ _<|wp_seq_k fun _ jT=>akg fun _ dM=>adr S 2 [] [(9,.bool true)] fun S=>akf<|dM _ _<|akq S<|Vp.region<|adr S 1 [.mem 0 0] [(10,nd.v)] fun S=>akn S 11 (NJ (h.below S.E)) fun ac u E9 S=>adr S 1 [] [(3,nd.KG)] (fun S=>?_);rcases QV nd with ⟨ho,hn⟩ | ho | ho
  ·rw[ho]at S;refine akf<|jT _ _<|akg fun _ fD=>adr S 1 [] [(4,.i 0)] fun S=>akf<|fD _ _<|akg fun _ dn=>akh S 5 [.i 0,.nilIface] fun ac u b12 Et afP S=>akf<|dn _ _<|wp_seq_k fun _ fP=>wp_block<|wp_loop_rounds 4 ?_;rw[rounds_succ];refine wp_seq_k fun _ jH=>akg fun _ gI=>adr S 2 [] [(12,.nilIface),(13,.iface 113 (.pointer (some ⟨b12,0,none⟩)))] fun S=>akD S 14 (as_nil (.iface 113 (.pointer (some ⟨b12,0,none⟩))) _) fun ac S=>akf<|gI _ _<|akz S<|wp_exit<|fP _ _<|akg fun _ jm=>adr S 2 [] [(2,.i 0)] fun S=>akf<|jm _ _<|akj S Tryz.results54 ?_;exact⟨by unfold aj.checkN; rw[hb]; simp only[_root_.cond]; rw[hn],S.E⟩
  ·rw[ho]at S;refine akf<|jT _ _<|akg fun _ jI=>adr S 1 [] [(4,.i 0)] fun S=>akf<|jI _ _<|akg fun _ iT=>akh S 5 [.i 0,.nilIface] fun ac u b21 QX NK S=>akf<|iT _ _<|wp_seq_k fun _ jB=>wp_block<|wp_loop_rounds 4 ?_;rw[rounds_succ];refine wp_seq_k fun _ nZ=>akg fun _ kN=>adr S 2 [] [(12,gV nd.qH .nilIface),(13,.iface 113 (.pointer (some ⟨b21,0,none⟩)))] fun S=>Sx.Jq S 0 [.i nd.qH,.nilIface] (some 14) rfl (as_hit (n:=nd.qH) (e := .nilIface) rfl S.E (S.bx 0) (S.old 0) hg) ?_;rintro e u ⟨rfl,ahs,aht,ahu⟩;refine⟨_,rfl,ahs,aht,ahu,fun ac S=>?_⟩;refine akf<|kN _ _<|akq S<|wp_skip<|nZ _ _<|wp_block<|akr S 5 [.mem 0 0,.mem 0 1] [] [(4,.i nd.qH),(18,.nilIface)] trivial fun ac u Y5 S=>adr S 1 [] [(3,.nilIface)] fun S=>akf ?_;show Code.rounds _ _ _ 3 _ _;rw[rounds_succ];refine wp_seq_k fun _ qX=>akg fun _ jM=>adr S 2 [] [(12,.nilIface),(13,.iface 113 (.pointer (some ⟨b21,0,none⟩)))] fun S=>akD S 14 (as_nil (.iface 113 (.pointer (some ⟨b21,0,none⟩))) _) fun ac S=>akf<|jM _ _<|akz S<|wp_exit<|jB _ _<|akg fun _ qJ=>adr S 2 [] [(2,.i nd.qH)] fun S=>akf<|qJ _ _<|akj S Tryz.results54 ?_;exact⟨by unfold aj.checkN; rw[hb]; simp only[_root_.cond],S.E⟩
  rw[ho]at S;refine akf<|jT _ _<|akg fun _ kW=>adr S 1 [] [(4,.i 0)] fun S=>akf<|kW _ _<|akg fun _ oV=>akh S 5 [.i 0,.nilIface] fun ac u NM Jr WC S=>akf<|oV _ _<|wp_seq_k fun _ oM=>wp_block<|wp_loop_rounds 4 ?_;rw[rounds_succ];refine wp_seq_k fun _ jC=>akg fun _ xg=>adr S 2 [] [(12,gV 0 (gV nd.qH .nilIface)),(13,.iface 113 (.pointer (some ⟨NM,0,none⟩)))] fun S=>Sx.Jq S 0 [.i 0,gV nd.qH .nilIface] (some 14) rfl (as_hit (n:=0) (e:=gV nd.qH .nilIface) rfl S.E (S.bx 0) (S.old 0) hg) ?_;rintro e u ⟨rfl,ahv,ahw,ahx⟩;refine⟨_,rfl,ahv,ahw,ahx,fun ac S=>?_⟩;refine akf<|xg _ _<|akq S<|wp_skip<|jC _ _<|wp_block<|akr S 5 [.mem 0 0,.mem 0 1] [] [(4,.i 0),(18,gV nd.qH .nilIface)] trivial fun ac u E41 S=>adr S 1 [] [(3,gV nd.qH .nilIface)] fun S=>akf ?_;show Code.rounds _ _ _ 3 _ _;rw[rounds_succ];refine wp_seq_k fun _ qL=>akg fun _ rY=>adr S 2 [] [(12,gV nd.qH .nilIface),(13,.iface 113 (.pointer (some ⟨NM,0,none⟩)))] fun S=>Sx.Jq S 0 [.i nd.qH,.nilIface] (some 14) rfl (as_hit (n:=nd.qH) (e := .nilIface) rfl S.E (S.bx 0) (S.old 0) hg) ?_;rintro e u ⟨rfl,ahy,ahz,ahA⟩;refine⟨_,rfl,ahy,ahz,ahA,fun ac S=>?_⟩;refine akf<|rY _ _<|akq S<|wp_skip<|qL _ _<|wp_block<|akr S 5 [.mem 0 0,.mem 0 1] [] [(4,.i nd.qH),(18,.nilIface)] trivial fun ac u E45 S=>adr S 1 [] [(3,.nilIface)] fun S=>akf ?_;show Code.rounds _ _ _ 2 _ _;rw[rounds_succ];refine wp_seq_k fun _ xk=>akg fun _ zi=>adr S 2 [] [(12,.nilIface),(13,.iface 113 (.pointer (some ⟨NM,0,none⟩)))] fun S=>akD S 14 (as_nil (.iface 113 (.pointer (some ⟨NM,0,none⟩))) _) fun ac S=>akf<|zi _ _<|akz S<|wp_exit<|oM _ _<|akg fun _ uU=>adr S 2 [] [(2,.i nd.qH)] fun S=>akf<|uU _ _<|akj S Tryz.results54 ?_;exact⟨by unfold aj.checkN; rw[hb]; simp only[_root_.cond],S.E⟩
 rw[show nd.AZ=gV 0 (gV n .nilIface)from he]at S;refine akf<|dG _ _<|wp_seq_k fun _ uV=>akg fun _ zk=>adr S 2 [] [(9,.bool false)] fun S=>akf<|zk _ _<|akz S<|wp_skip<|uV _ _<|akg fun _ CQ=>adr S 1 [] [(4,.i 0)] fun S=>akf<|CQ _ _<|akg fun _ Fa=>akh S 5 [.i 0,.nilIface] fun ac u b53 E54 ajE S=>akf<|Fa _ _<|wp_seq_k fun _ CS=>wp_block<|wp_loop_rounds 4 ?_;rw[rounds_succ];refine wp_seq_k fun _ Fb=>akg fun _ Y7=>adr S 2 [] [(12,gV 0 (gV n .nilIface)),(13,.iface 113 (.pointer (some ⟨b53,0,none⟩)))] fun S=>Sx.Jq S 0 [.i 0,gV n .nilIface] (some 14) rfl (as_hit (n:=0) (e:=gV n .nilIface) rfl S.E (S.bx 0) (S.old 0) hg) ?_;rintro e u ⟨rfl,ahB,ahC,ahD⟩;refine⟨_,rfl,ahB,ahC,ahD,fun ac S=>?_⟩;refine akf<|Y7 _ _<|akq S<|wp_skip<|Fb _ _<|wp_block<|akr S 5 [.mem 0 0,.mem 0 1] [] [(4,.i 0),(18,gV n .nilIface)] trivial fun ac u E60 S=>adr S 1 [] [(3,gV n .nilIface)] fun S=>akf ?_;show Code.rounds _ _ _ 3 _ _;rw[rounds_succ];refine wp_seq_k fun _ Y8=>akg fun _ adV=>adr S 2 [] [(12,gV n .nilIface),(13,.iface 113 (.pointer (some ⟨b53,0,none⟩)))] fun S=>Sx.Jq S 0 [.i n,.nilIface] (some 14) rfl (as_hit (n:=n) (e := .nilIface) rfl S.E (S.bx 0) (S.old 0) hg) ?_;rintro e u ⟨rfl,ahE,ahF,ahG⟩;refine⟨_,rfl,ahE,ahF,ahG,fun ac S=>?_⟩;refine akf<|adV _ _<|akq S<|wp_skip<|Y8 _ _<|wp_block<|akr S 5 [.mem 0 0,.mem 0 1] [] [(4,.i n),(18,.nilIface)] trivial fun ac u E64 S=>adr S 1 [] [(3,.nilIface)] fun S=>akf ?_;show Code.rounds _ _ _ 2 _ _;rw[rounds_succ];refine wp_seq_k fun _ afQ=>akg fun _ ahH=>adr S 2 [] [(12,.nilIface),(13,.iface 113 (.pointer (some ⟨b53,0,none⟩)))] fun S=>akD S 14 (as_nil (.iface 113 (.pointer (some ⟨b53,0,none⟩))) _) fun ac S=>akf<|ahH _ _<|akz S<|wp_exit<|CS _ _<|akg fun _ KH=>adr S 2 [] [(2,.i n)] fun S=>akf<|KH _ _<|akj S Tryz.results54 ?_;exact⟨by unfold aj.checkN; rw[hb]; simp only[_root_.cond]; rw[hc],S.E⟩
open Go.RowKit
variable{α:Type}{K:Nat}
theorem aA.CU{base:Nat}{w:World}{v:Value}{q:Bool×Nat×Nat}(h:bI base w v q):∃r:bK,v=r.v∧r.ok w∧r.n1=q.1∧r.l1=Na.au q.2.1∧r.n2=false∧r.l2=Na.au q.2.2:=by
 obtain⟨s,t,rfl,hs,ht,_⟩:=h;have hs':=hs;have ht':=ht;obtain⟨a1,c1,rfl,_⟩:=hs;obtain⟨a2,c2,rfl,_⟩:=ht;exact⟨⟨q.1,a1,c1,Na.au q.2.1,false,a2,c2,Na.au q.2.2⟩,rfl,⟨hs',ht'⟩,rfl,rfl,rfl,rfl⟩
theorem wR{r:bK}{q:Bool×Nat×Nat}(h1:r.n1=q.1)(h2:r.l1=Na.au q.2.1)(h3:r.n2=false)(h4:r.l2=Na.au q.2.2)(hn:IW q):r.q=q:=by
 unfold bK.q;rw[h1,h2,h3,h4,Na.aJ,Na.aJ]; exact hn
theorem mg{r:bK}{q:Bool×Nat×Nat}{K:Nat}(h2:r.l1=Na.au q.2.1)(h4:r.l2=Na.au q.2.2)(hl:qlen K q):r.fit K:=⟨by rw[h2]; exact hl.1,by rw[h4]; exact hl.2⟩
theorem dN.CU{base K:Nat}{w:World}{v:Value}{Q:Q6}(h:jO base w v Q)(hn:xq Q)(hl:Fe K Q):∃t:aS,v=t.v∧t.ok w∧t.q=Q∧t.fit K:=by
 obtain⟨t,rfl,h0,h1,h2,h3,h4,h5⟩:=h.sT;obtain⟨n0,n1,n2,n3,n4,n5⟩:=hn;obtain⟨l0,l1,l2,l3,l4,l5⟩:=hl;obtain⟨r0,e0,a0,b0,c0,d0,f0⟩:=aA.CU h0;obtain⟨r1,e1,a1,b1,c1,d1,f1⟩:=aA.CU h1;obtain⟨r2,e2,a2,b2,c2,d2,f2⟩:=aA.CU h2;obtain⟨r3,e3,a3,b3,c3,d3,f3⟩:=aA.CU h3;obtain⟨r4,e4,a4,b4,c4,d4,f4⟩:=aA.CU h4;obtain⟨r5,e5,a5,b5,c5,d5,f5⟩:=aA.CU h5;refine⟨⟨r0,r1,r2,r3,r4,r5⟩,?_,⟨a0,a1,a2,a3,a4,a5⟩,?_,⟨mg c0 f0 l0,mg c1 f1 l1,mg c2 f2 l2,mg c3 f3 l3,mg c4 f4 l4,mg c5 f5 l5⟩⟩
 ·have key:∀{x y:bK},x.v=y.v→x.cells=y.cells:=fun h=>by
   unfold bK.v at h;simp only[Value.agg.injEq,Array.mk.injEq]at h;exact h
  unfold aS.v aS.cells;rw[key e0,key e1,key e2,key e3,key e4,key e5]
 unfold aS.q;rw[wR b0 c0 d0 f0 n0,wR b1 c1 d1 f1 n1,wR b2 c2 d2 f2 n2,wR b3 c3 d3 f3 n3,wR b4 c4 d4 f4 n4,wR b5 c5 d5 f5 n5]
theorem vV:xq qI:=⟨by decide,by decide,by decide,by decide,by decide,by decide⟩
theorem adW:Fe 1 qI:=by
 have h1:qlen 1 (false,1,1):=⟨A8,A8⟩;have h0:qlen 1 (false,0,1):=⟨by show(Na.au 0).length≤1; rw[Na.ni]; simp,A8⟩;exact⟨h1,h0,h0,h1,h0,h0⟩
def gW(id:Int)(t:aS):aj:=⟨id,2,0,t,none,0,[],0,0,0,false,false,none,0,[],1,none,0,[],aY.bare,none,0,[],bZ.bare,0⟩
def jY:aj:=⟨0,0,0,aS.none,none,0,[],0,0,0,false,false,none,0,[],0,none,0,[],aY.bare,none,0,[],bZ.bare,0⟩
theorem ql(w:World):og w (.slice none 0 0) []:=⟨lZ _ _ _,fun s hs=>by cases hs⟩
theorem kX(w:World):iU w (.slice none 0 0) []:=⟨lZ _ _ _,fun s hs=>by cases hs⟩
theorem WE{w:World}{id:Int}{t:aS}(hid:I64 id)(ht:t.ok w)(hf:t.fit 1)(hK:1≤K)(hK2:K≤10000):eF K w (gW id t):=
 ⟨⟨hid,(show I64 2 by decide),iE,ht,ql w,iE,iE,ql w,(show I64 1 by decide),kX w,aY.jZ w,kX w,bZ.jZ w,iE⟩,⟨hf.1.mono hK,hf.2.1.mono hK,hf.2.2.1.mono hK,hf.2.2.2.1.mono hK,hf.2.2.2.2.1.mono hK,hf.2.2.2.2.2.mono hK⟩,fun p hp=>(by cases hp),fun p hp=>(by cases hp),hK,hK2⟩
theorem oW(w:World)(hK:1≤K)(hK2:K≤10000):eF K w jY:=
 ⟨⟨iE,iE,iE,aS.ig w,ql w,iE,iE,ql w,iE,kX w,aY.jZ w,kX w,bZ.jZ w,iE⟩,aS.iV K,fun p hp=>(by cases hp),fun p hp=>(by cases hp),hK,hK2⟩
theorem KI:jY.checkN=2:=rfl
theorem bK.ok.bD{w w':World}{r:bK}{b:Nat}{A:Array Value}(h:r.ok w)(hc:Ch b w w')(hx:Bx w b A)(hA:A.toList.all zA=true):r.ok w':=⟨rM h.1 hc hx hA,rM h.2 hc hx hA⟩
theorem aS.ok.bD{w w':World}{t:aS}{b:Nat}{A:Array Value}(h:t.ok w)(hc:Ch b w w')(hx:Bx w b A)(hA:A.toList.all zA=true:=by rfl):t.ok w':=
 ⟨h.1.bD hc hx hA,h.2.1.bD hc hx hA,h.2.2.1.bD hc hx hA,h.2.2.2.1.bD hc hx hA,h.2.2.2.2.1.bD hc hx hA,h.2.2.2.2.2.bD hc hx hA⟩
end Go.Proofs.YtfmkkemfhjkajaaGreatDoor
