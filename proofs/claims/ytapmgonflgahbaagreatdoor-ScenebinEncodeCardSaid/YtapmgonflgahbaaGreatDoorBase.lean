/- Ground for every seat: byte slices that read as lists, -/
import Derived.WalkKit
import Derived.WalkLawsBesides
import Derived.WalkSpells
import Derived.Lib.Hide
import Derived.Laws.AppendOwnNone
import Derived.Lib.SliceRun
import Derived.Laws.BytesArg
import Derived.Deep.QuietTactic
import Derived.BigQuiet
import Derived.ProofKit
import Derived.OpenShut
import Derived.ShutString
import Derived.ChangeOld
abbrev Go.Value.i(x:Int):Go.Value:=.int .i64 x
@[match_pattern]abbrev Go.Value.sn:Go.Value:=.slice none 0 0
@[match_pattern]abbrev Go.Value.u(x:Int):Go.Value:=.int .u8 x
@[match_pattern]abbrev Go.Value.q(b o:Nat):Go.Value:=.pointer (some ⟨b,o,none⟩)
@[match_pattern]abbrev Go.Value.z:Go.Value:=.bool false
theorem aqn:type_of% @Nat.gcd_pos_of_pos_right:=@Nat.gcd_pos_of_pos_right
theorem aqm:type_of% @Nat.mul_lt_mul_of_pos_right:=@Nat.mul_lt_mul_of_pos_right
theorem aql:type_of% @List.flatMap_append:=@List.flatMap_append
theorem aqk:type_of% @Except.error.injEq:=@Except.error.injEq
theorem aqj:type_of% @Int.toNat_natCast:=@Int.toNat_natCast
theorem aqi:type_of% @Nat.lt_trichotomy:=@Nat.lt_trichotomy
theorem aqh:type_of% @Nat.gcd_dvd_right:=@Nat.gcd_dvd_right
theorem aqg:type_of% @Bool.eq_false_or_eq_true:=@Bool.eq_false_or_eq_true
theorem aqf:type_of% @List.nodup_cons:=@List.nodup_cons
theorem aqe:type_of% @List.map_replicate:=@List.map_replicate
theorem aqd:type_of% @List.getElem_cons_zero:=@List.getElem_cons_zero
theorem aqc:type_of% @Go.World.size_alloc:=@Go.World.size_alloc
theorem aqb:type_of% @List.map_take:=@List.map_take
theorem aqa:type_of% @List.any_eq_true:=@List.any_eq_true
theorem ap9:type_of% @List.mem_singleton:=@List.mem_singleton
theorem ap8:type_of% @Int.natCast_mul:=@Int.natCast_mul
theorem ap7:type_of% @Nat.lt_of_le_of_lt:=@Nat.lt_of_le_of_lt
theorem ap6:type_of% @Go.IntKind.wrap_i64:=@Go.IntKind.wrap_i64
theorem ap5:type_of% @Go.World.ownsRow_nil:=@Go.World.ownsRow_nil
theorem ap4:type_of% @UInt32.xor_assoc:=@UInt32.xor_assoc
theorem ap3:type_of% @List.length_take:=@List.length_take
theorem ap2:type_of% @Go.Result.andThen_ok:=@Go.Result.andThen_ok
theorem ap1:type_of% @List.mem_append_left:=@List.mem_append_left
theorem ap0:type_of% @List.replicate_zero:=@List.replicate_zero
theorem apZ:type_of% @List.take_append_drop:=@List.take_append_drop
theorem apY:type_of% @Nat.sub_self:=@Nat.sub_self
theorem apX:type_of% @Option.bind_some:=@Option.bind_some
theorem apW:type_of% @Bool.false_eq_true:=@Bool.false_eq_true
theorem apV:type_of% @Nat.pow_add:=@Nat.pow_add
theorem apU:type_of% @List.replicate_succ:=@List.replicate_succ
theorem apT:type_of% @Array.all_eq_true':=@Array.all_eq_true'
theorem apS:type_of% @beq_self_eq_true:=@beq_self_eq_true
theorem apR:type_of% @Nat.mul_le_mul_right:=@Nat.mul_le_mul_right
theorem apQ:type_of% @Nat.div_le_self:=@Nat.div_le_self
theorem apP:type_of% @Nat.add_zero:=@Nat.add_zero
theorem apO:type_of% @List.not_mem_nil:=@List.not_mem_nil
theorem apN:type_of% @Bool.false_and:=@Bool.false_and
theorem apM:type_of% @List.mem_cons_of_mem:=@List.mem_cons_of_mem
theorem apL:type_of% @List.mem_filterMap:=@List.mem_filterMap
theorem apK:type_of% @List.mem_append_right:=@List.mem_append_right
theorem apJ:type_of% @Go.wp_region_any:=@Go.wp_region_any
theorem apI:type_of% @Nat.mod_eq_of_lt:=@Nat.mod_eq_of_lt
theorem apH:type_of% @Nat.mul_le_mul:=@Nat.mul_le_mul
theorem apG:type_of% @Nat.add_assoc:=@Nat.add_assoc
theorem apF:type_of% @Nat.div_lt_of_lt_mul:=@Nat.div_lt_of_lt_mul
theorem apE:type_of% @List.nil_append:=@List.nil_append
theorem apD:type_of% @List.length_map:=@List.length_map
theorem apC:type_of% @List.cons_append:=@List.cons_append
theorem apB:type_of% @Nat.add_comm:=@Nat.add_comm
theorem apA:type_of% @UInt32.toNat_shiftRight:=@UInt32.toNat_shiftRight
theorem apz:type_of% @Bool.true_and:=@Bool.true_and
theorem apy:type_of% @Array.mk.injEq:=@Array.mk.injEq
theorem apx:type_of% @Go.Value.agg.injEq:=@Go.Value.agg.injEq
theorem apw:type_of% @List.nodup_append:=@List.nodup_append
theorem apv:type_of% @List.map_set:=@List.map_set
theorem apu:type_of% @Int.natAbs_natCast:=@Int.natAbs_natCast
theorem apt:type_of% @Bool.or_eq_true:=@Bool.or_eq_true
theorem aps:type_of% @UInt8.toNat_inj:=@UInt8.toNat_inj
theorem apr:type_of% @Bool.not_eq_true':=@Bool.not_eq_true'
theorem apq:type_of% @Go.DataW.trod_struct:=@Go.DataW.trod_struct
theorem apo:type_of% @List.map_nil:=@List.map_nil
theorem apn:type_of% @List.flatMap_cons:=@List.flatMap_cons
theorem apm:type_of% @List.drop_eq_nil_of_le:=@List.drop_eq_nil_of_le
theorem apl:type_of% @Nat.shiftRight_eq_div_pow:=@Nat.shiftRight_eq_div_pow
theorem apk:type_of% @Nat.add_mul:=@Nat.add_mul
theorem apj:type_of% @Nat.mod_add_div:=@Nat.mod_add_div
theorem aph:type_of% @Nat.mul_succ:=@Nat.mul_succ
theorem apg:type_of% @Bool.and_assoc:=@Bool.and_assoc
theorem apf:type_of% @Go.World.ownsRow_lit:=@Go.World.ownsRow_lit
theorem ape:type_of% @List.mem_append:=@List.mem_append
theorem apd:type_of% @Nat.two_pow_pos:=@Nat.two_pow_pos
theorem apc:type_of% @List.eq_nil_of_length_eq_zero:=@List.eq_nil_of_length_eq_zero
theorem apb:type_of% @Go.wp_loop_rounds:=@Go.wp_loop_rounds
theorem apa:type_of% @decide_eq_false:=@decide_eq_false
theorem ao9:type_of% @Nat.mod_lt:=@Nat.mod_lt
theorem ao8:type_of% @Go.IntKind.wrap_u64:=@Go.IntKind.wrap_u64
theorem ao7:type_of% @List.drop_zero:=@List.drop_zero
theorem ao6:type_of% @List.append_nil:=@List.append_nil
theorem ao5:type_of% @UInt32.toNat_inj:=@UInt32.toNat_inj
theorem ao4:type_of% @Bool.not_eq_false':=@Bool.not_eq_false'
theorem ao3:type_of% @decide_eq_false_iff_not:=@decide_eq_false_iff_not
theorem ao2:type_of% @List.drop_eq_getElem_cons:=@List.drop_eq_getElem_cons
theorem ao1:type_of% @Option.isSome_iff_exists:=@Option.isSome_iff_exists
theorem ao0:type_of% @Nat.pow_le_pow_right:=@Nat.pow_le_pow_right
theorem aoZ:type_of% @List.take_succ_eq_append_getElem:=@List.take_succ_eq_append_getElem
theorem aoY:type_of% @Nat.zero_add:=@Nat.zero_add
theorem aoX:type_of% @decide_eq_true:=@decide_eq_true
theorem aoW:type_of% @List.mem_map:=@List.mem_map
theorem aoV:type_of% @Go.Sem.run_bind:=@Go.Sem.run_bind
theorem aoU:type_of% @List.append_assoc:=@List.append_assoc
theorem aoT:type_of% @Nat.lt_or_ge:=@Nat.lt_or_ge
theorem aoS:type_of% @List.map_cons:=@List.map_cons
theorem aoR:type_of% @Bool.eq_iff_iff:=@Bool.eq_iff_iff
theorem aoQ:type_of% @List.take_length:=@List.take_length
theorem aoP:type_of% @Bool.or_eq_false_iff:=@Bool.or_eq_false_iff
theorem aoO:type_of% @Option.map_some:=@Option.map_some
theorem aoN:type_of% @List.lookup_cons:=@List.lookup_cons
theorem aoM:type_of% @List.cons.injEq:=@List.cons.injEq
theorem aoL:type_of% @List.map_append:=@List.map_append
theorem aoK:type_of% @Nat.mul_le_mul_left:=@Nat.mul_le_mul_left
theorem aoJ:type_of% @Nat.eq_zero_or_pos:=@Nat.eq_zero_or_pos
theorem aoI:type_of% @Nat.mul_assoc:=@Nat.mul_assoc
theorem aoH:type_of% @Nat.mul_comm:=@Nat.mul_comm
theorem aoF:type_of% @Nat.pow_succ:=@Nat.pow_succ
theorem aoE:type_of% @Nat.le_trans:=@Nat.le_trans
theorem aoC:type_of% @Nat.lt_of_lt_of_le:=@Nat.lt_of_lt_of_le
theorem aoB:type_of% @Go.Value.slice.injEq:=@Go.Value.slice.injEq
theorem aoA:type_of% @List.all_eq_true:=@List.all_eq_true
theorem aoy:type_of% @List.length_nil:=@List.length_nil
theorem aox:type_of% @List.mem_cons_self:=@List.mem_cons_self
theorem aov:type_of% @decide_eq_true_eq:=@decide_eq_true_eq
theorem aou:type_of% @List.take_of_length_le:=@List.take_of_length_le
theorem aot:type_of% @List.getElem_mem:=@List.getElem_mem
theorem aos:type_of% @Nat.mul_add:=@Nat.mul_add
theorem aor:type_of% @Go.RowKit.Below.refl:=@Go.RowKit.Below.refl
theorem aoq:type_of% @Bool.and_eq_true:=@Bool.and_eq_true
theorem aop:type_of% @List.length_cons:=@List.length_cons
theorem aoo:type_of% @beq_iff_eq:=@beq_iff_eq
theorem aon:type_of% @List.mem_cons:=@List.mem_cons
theorem aoj:type_of% @Go.rounds_succ:=@Go.rounds_succ
theorem aoi:type_of% @of_decide_eq_false:=@of_decide_eq_false
theorem aog:type_of% @beq_eq_false_iff_ne:=@beq_eq_false_iff_ne
theorem aof:type_of% @Option.some.inj:=@Option.some.inj
theorem aoe:type_of% @of_decide_eq_true:=@of_decide_eq_true
theorem aod:type_of% @Go.wp_exit:=@Go.wp_exit
theorem aob:type_of% @Prod.mk.injEq:=@Prod.mk.injEq
theorem aoa:type_of% @Nat.zero_le:=@Nat.zero_le
theorem an9:type_of% @congrArg:=@congrArg
theorem an8:type_of% @Option.some.injEq:=@Option.some.injEq
theorem an7:type_of% @Nat.le_refl:=@Nat.le_refl
theorem an6:type_of% @if_pos:=@if_pos
theorem an5:type_of% @List.length_append:=@List.length_append
theorem an1:type_of% @Go.wp_block:=@Go.wp_block
theorem an0:type_of% @if_neg:=@if_neg
theorem anZ:type_of% @Go.wp_skip:=@Go.wp_skip
theorem anV:type_of% @Go.wp_seq_k:=@Go.wp_seq_k
theorem anU:type_of% @Go.Lib.hid:=@Go.Lib.hid
namespace Go.Proofs.YtapmgonflgahbaaGreatDoor
open Go.RowKit
variable{α:Type}
def dS(f:α→Value)(w:World)(v:Value)(l:List α):Prop:=
 ∃a cap,v = .slice a l.length cap∧cap≤maxLen ∧
  ((l=[]∧(a=none→cap=0)) ∨
   ∃b o,a=some ⟨b,o,none⟩∧b<w.heap.size∧l.length≤cap∧∀i (h:i<l.length),w.cell? ⟨b,o+i,none⟩=some (f l[i]))
abbrev dY (x:UInt8):Value := .u (x.toNat:Int)
abbrev aY (x:UInt32):Value := .int .u32 (x.toNat:Int)
abbrev abz (x:UInt64):Value := .int .u64 (x.toNat:Int)
abbrev bI (w:World)(v:Value)(l:List UInt8):Prop:=dS dY w v l
theorem dS.below{f:α→Value}{w w':World}{v:Value}{l:List α}(h:dS f w v l)(hb:Below w.heap.size w w'):dS f w' v l:=by
 obtain⟨a,cap,hv,hm,h⟩:=h;refine⟨a,cap,hv,hm,?_⟩;rcases h with h | ⟨b,o,ha,hlt,hl,hc⟩
 ·exact .inl h
 exact .inr ⟨b,o,ha,by have:=hb.size; omega,hl,fun i hi=>by rw[hb.cell (p:=⟨b,o+i,none⟩) hlt]; exact hc i hi⟩
theorem pU{f:α→Value}{w:World}{a:Option Addr}{cap:Nat}{l:List α}(hm:cap≤maxLen)
  (h:(l=[]∧(a=none→cap=0)) ∨
   ∃b o,a=some ⟨b,o,none⟩∧b<w.heap.size∧l.length≤cap∧∀i (h:i<l.length),w.cell? ⟨b,o+i,none⟩=some (f l[i])) :
  l.length≤9223372036854775807:=by
 unfold maxLen at hm;rcases h with ⟨rfl,_⟩ | ⟨_,_,_,_,h,_⟩
 ·simp
 omega
theorem dV{k:IntKind}{a b:Int}(h:a=b):Ending.returned (.int k a) = .returned (.int k b):=by rw[h]
theorem Et{k:IntKind}{a b:Int}(h:a=b):Value.int k a = .int k b:=by rw[h]
def fK(w:World)(size:Nat)(v:Value)(n:Nat)(xs:List Value):Prop:=
 xs.length=n*size∧(∀u∈xs,u.oneCell'=true) ∧
  ((n=0∧∃a cap,v = .slice a 0 cap∧(a=none→cap=0)) ∨
   ∃b o cap,v = .slice (some ⟨b,o,none⟩) n cap∧b<w.heap.size∧n≤cap∧cap≤maxLen∧∀(j:Nat) u,xs[j]?=some u→w.cell? ⟨b,o+j,none⟩=some u)
theorem dS.raw{f:α→Value}(hf:∀x,(f x).oneCell'=true){w:World}{v:Value}{l:List α}(h:dS f w v l):fK w 1 v l.length (l.map f):=by
 obtain⟨a,cap,rfl,hm,h⟩:=h;refine⟨by simp,by simpa using fun x _=>hf x,?_⟩;rcases h with ⟨rfl,hz⟩ | ⟨b,o,rfl,hb,hl,hc⟩
 ·exact .inl ⟨rfl,a,cap,rfl,hz⟩
 refine .inr ⟨b,o,cap,rfl,hb,hl,hm,fun j u hj=>?_⟩;have hlt:j<l.length:=by
  have:=(List.getElem?_eq_some_iff.1 hj).1; simpa using this
 rw[hc j hlt];simpa[List.getElem?_eq_getElem hlt]using hj
theorem aU{f:α→Value}{w:World}{base:Nat}{e:TypeId}{v:Value}{l:List α}(h:w.ownsRow base e 1 v l.length (l.map f)):dS f w v l:=by
 have hlt:=h.lt;rcases h.2 with ⟨rfl,h0⟩ | ⟨g,cap,cur,rfl,hb,hg,hn,hm,hc,ht⟩
 ·exact⟨none,0,by rw[h0],Nat.zero_le _,.inl ⟨List.eq_nil_of_length_eq_zero h0,fun _=>rfl⟩⟩
 refine⟨_,cap,rfl,hm,.inr ⟨g,0,rfl,(hlt g rfl).2,hn,fun i hi=>?_⟩⟩;rw[Nat.zero_add,h.cellAt i (by omega)];simp[List.getElem?_eq_getElem hi]
structure pV (P:Program) (t e:TypeId) (z:Value) (size bytes:Nat):Prop where
 und:P.underlying t=some (.slice e)
 info:∃i,P.info? e=some i∧i.zero=some z∧i.size=size∧i.bytes=bytes
 zc:z.cells.size=size
 pos:0<size
theorem aQ{P:Program}{w:World}{ops:Array Oper}{rest:List Oper}{o:Oper}{a:Act}{Q:Exit→Act→World→Prop}
  (hgd:o.guard=none) (s x:Operand) (t:TypeId) (ho:o.op = .call { callee := .builtin .append,args := #[s,x],argTypes := #[t,t] })
  {e:TypeId} {z:Value} {size bytes:Nat} (T:pV P t e z size bytes) (base:Nat)
  {v:Value} {n:Nat} {xs:List Value} (hown:w.ownsRow base e size v n xs) (hs:a.eval s=v)
  {y:Value} {m:Nat} {ys:List Value} (hy:fK w size y m ys) (hx:a.eval x=y)
  (h63:n+m≤maxLen) (hbytes:(n+m)*bytes≤140737488355328) (hbase:base≤w.heap.size)
  (h:∀v' w',w'.ownsRow base e size v' (n+m) (xs++ys)→w.grownBy w' v.ownBlock→wpList P ops Q rest (a.put o.dst v') w'):wpList P ops Q (o::rest) a w:=by
 obtain⟨i,hi,hz',hsz,hby⟩:=T.info;obtain⟨hl,h1,hy⟩:=hy;rcases hy with ⟨rfl,ad,cap,rfl,hz⟩ | ⟨b,off,cap,rfl,hb,hn,hm,hc⟩
 ·have:ys=[]:=List.eq_nil_of_length_eq_zero (by simpa using hl);subst this;rcases ad with _ | ad;case some =>
   refine wpList_append_own w hgd s x t ho base e i z size bytes T.und hi hz' hsz hby T.zc T.pos v n xs hs hown ad 0 cap [] hx (by simp) (by simp) (by simp) h63 hbytes hbase ?_;intro v' w' h2 h3 _; exact h v' w' h2 h3
  obtain rfl:=hz rfl;refine wpList_append_own_none hgd s x t ho base e i size T.und hi v n xs hs hown hx ?_;exact h v w (by simpa using hown) ⟨rfl,rfl,rfl,Nat.le_refl _,fun _ _ _=>rfl⟩
 refine wpList_append_own w hgd s x t ho base e i z size bytes T.und hi hz' hsz hby T.zc T.pos v n xs hs hown ⟨b,off,none⟩ m cap ys hx hl ?_ h1 h63 hbytes hbase ?_
 ·intro j u hj;have:(⟨b,off,none⟩:Addr).add j=⟨b,off+j,none⟩:=by unfold Addr.add; split<;>simp_all
  rw[this]; exact hc j u hj
 intro v' w' h2 h3 _; exact h v' w' h2 h3
theorem rU{P:Program}{w:World}{src e dst:TypeId}(hs:P.underlying src=some (.slice e))(he:P.underlying e=some (.int .u8))(hd:P.underlying dst=some .string)
  {v:Value} {l:List UInt8} (h:bI w v l):(convert src dst v).run P w = .ok (.string ⟨l.toArray⟩) w:=by
 obtain⟨a,cap,rfl,hm,h⟩:=h;rcases h with ⟨rfl,hz⟩ | ⟨b,o,rfl,hb,hl,hc⟩
 ·rcases a with _ | ad
  ·exact run_convert_bytes_nil w src e hs he _ _ dst hd
  have hl:(loadCells ad 0).run P w = .ok (([]:List Int).map (Value.int .u8)).toArray w:=by simpa using run_loadCells_list (P:=P) w ad [] (by simp)
  rw[run_convert_bytes_string w src dst e _ _ cap hs he hd];exact(run_bytesToString w ad 0 cap [] hl).trans rfl
 rw[run_convert_bytes_arg w src e hs he b o l.length cap (l.map fun c=>(c.toNat:Int)) (by simp) ?_ dst hd]
 ·congr 2;simp only[strOfNums,List.map_map];congr 2;rw[List.map_congr_left (g:=id) (fun c _=>by simp)]; simp
 intro i hi;rw[hc i hi]; simp[List.getElem?_eq_getElem hi]
def EL(R:World→Value→α→Prop)(w:World)(v:Value)(l:List α):Prop:=
 ∃a cap,v = .slice a l.length cap∧cap≤maxLen ∧
  ((l=[]∧(a=none→cap=0)) ∨
   ∃b o,a=some ⟨b,o,none⟩∧b<w.heap.size∧l.length≤cap∧∀i (h:i<l.length),∃x,w.cell? ⟨b,o+i,none⟩=some x∧R w x l[i])
theorem EL.below{R:World→Value→α→Prop}(hR:∀w w' x y,Below w.heap.size w w'→R w x y→R w' x y){w w':World}{v:Value}{l:List α}
  (h:EL R w v l) (hb:Below w.heap.size w w'):EL R w' v l:=by
 obtain⟨a,cap,hv,hm,h⟩:=h;refine⟨a,cap,hv,hm,?_⟩;rcases h with h | ⟨b,o,ha,hlt,hl,hc⟩
 ·exact .inl h
 refine .inr ⟨b,o,ha,by have:=hb.size; omega,hl,fun i hi=>?_⟩;obtain⟨x,hx,hr⟩:=hc i hi;exact⟨x,by rw[hb.cell (p:=⟨b,o+i,none⟩) hlt]; exact hx,hR _ _ _ _ hb hr⟩
abbrev xX (w:World)(v:Value)(ls:List (List UInt8)):Prop:=EL bI w v ls
theorem Yj{R:World→Value→α→Prop}{w:World}{a:Option Addr}{cap:Nat}{l:List α}(hm:cap≤maxLen)
  (h:(l=[]∧(a=none→cap=0)) ∨
   ∃b o,a=some ⟨b,o,none⟩∧b<w.heap.size∧l.length≤cap∧∀i (h:i<l.length),∃x,w.cell? ⟨b,o+i,none⟩=some x∧R w x l[i]) :
  l.length≤9223372036854775807:=by
 unfold maxLen at hm;rcases h with ⟨rfl,_⟩ | ⟨_,_,_,_,h,_⟩
 ·simp
 omega
theorem take_snoc(l:List α)(k:Nat)(h:k<l.length):l.take (k+1)=l.take k++[l[k]]:=by
 rw[List.take_succ_eq_append_getElem h]
theorem fK.below{w w':World}{size:Nat}{v:Value}{n:Nat}{xs:List Value}(h:fK w size v n xs)(hb:Below w.heap.size w w'):fK w' size v n xs:=by
 obtain⟨h1,h2,h⟩:=h;refine⟨h1,h2,?_⟩;rcases h with h | ⟨b,o,cap,hv,hlt,hl,hm,hc⟩
 ·exact .inl h
 exact .inr ⟨b,o,cap,hv,by have:=hb.size; omega,hl,hm,fun j u hj=>by rw[hb.cell (p:=⟨b,o+j,none⟩) hlt]; exact hc j u hj⟩
theorem Cj{w:World}{size:Nat}{v:Value}{n:Nat}{xs:List Value}(h:fK w size v n xs)(o:Obj):fK (w.alloc o) size v n xs:=
 h.below ((Below.refl _ _).alloc (Nat.le_refl _) o)
theorem dS.len{f:α→Value}{w:World}{v:Value}{l:List α}(h:dS f w v l):l.length≤maxLen:=by
 obtain⟨a,cap,rfl,hm,h⟩:=h;rcases h with ⟨rfl,_⟩ | ⟨b,o,rfl,hb,hl,hc⟩
 ·simp
 omega
theorem JU(w:World)(cs:Array Value)(e:TypeId)(n size:Nat)(hs:cs.size=n*size)(hm:n≤maxLen)(h1:∀u∈cs.toList,u.oneCell'=true) :
  fK (w.alloc (.cells cs e)) size (.slice (some ⟨w.heap.size,0,none⟩) n n) n cs.toList:=by
 refine⟨by simpa using hs,h1,.inr ⟨w.heap.size,0,n,rfl,by simp,Nat.le_refl _,hm,fun j u hj=>?_⟩⟩;rw[Nat.zero_add,World.cell?_alloc_at _ _ _ _ rfl]; simpa using hj
theorem JV{f:α→Value}(w:World)(l:List α)(e:TypeId)(hm:l.length≤maxLen) :
  dS f (w.alloc (.cells (l.map f).toArray e)) (.slice (some ⟨w.heap.size,0,none⟩) l.length l.length) l:=by
 refine⟨_,_,rfl,hm,.inr ⟨_,_,rfl,by simp,Nat.le_refl _,fun i hi=>?_⟩⟩;rw[Nat.zero_add,World.cell?_alloc_at _ _ _ _ rfl]; simp[List.getElem?_eq_getElem hi]
theorem TP{R:World→Value→α→Prop}(w:World)(x:Value)(y:α)(e:TypeId)(h:R (w.alloc (.cells #[x] e)) x y) :
  EL R (w.alloc (.cells #[x] e)) (.slice (some ⟨w.heap.size,0,none⟩) 1 1) [y]:=by
 refine⟨_,_,rfl,by unfold maxLen; omega,.inr ⟨_,_,rfl,by simp,Nat.le_refl _,fun i hi=>?_⟩⟩;have:i=0:=by simpa using hi
 subst this;exact⟨x,by rw[World.cell?_alloc_at _ _ _ _ rfl]; simp,h⟩
theorem au{w:World}{base base':Nat}{e:TypeId}{size:Nat}{v:Value}{n:Nat}{xs:List Value}(h:w.ownsRow base e size v n xs)(hb:base'≤base):w.ownsRow base' e size v n xs:=by
 obtain⟨h1,h2⟩:=h;refine⟨h1,?_⟩;rcases h2 with h2 | ⟨g,cap,cur,hv,hg,r⟩
 ·exact .inl h2
 exact .inr ⟨g,cap,cur,hv,by omega,r⟩
theorem aG(w:World)(o:Obj):Below w.heap.size w (w.alloc o):=(Below.refl _ _).alloc (Nat.le_refl _) o
theorem Yk{f:α→Value}{w:World}{b o cap n:Nat}{l:List α}(hb:b<w.heap.size)(hl:l.length≤cap)(hm:cap≤maxLen)(hn:n≤l.length)
  (hc:∀i (h:i<l.length),w.cell? ⟨b,o+i,none⟩=some (f l[i])):dS f w (.slice (some ⟨b,o,none⟩) n cap) (l.take n):=by
 have e:(l.take n).length=n:=by simp; omega
 refine⟨_,cap,by rw[e],hm,.inr ⟨b,o,rfl,hb,by omega,fun i hi=>?_⟩⟩;rw[hc i (by omega)]; simp
theorem TQ{f:α→Value}(w:World):dS f w (.sn) []:=⟨none,0,rfl,Nat.zero_le _,.inl ⟨rfl,fun _=>rfl⟩⟩
abbrev Ext (w w':World):Prop:=Below w.heap.size w w'
theorem Ext.rfl'{w:World}:Ext w w:=Below.refl _ _
theorem Ext.trans'{a b c:World}(h1:Ext a b)(h2:Ext b c):Ext a c:=Below.trans h1 (Below.mono h2 h1.size)
abbrev aF (w:World)(v:Value)(l:List UInt32):Prop:=dS aY w v l
theorem dS.shape{f:α→Value}{w:World}{v:Value}{l:List α}(h:dS f w v l):∃a cap,v = .slice a l.length cap:=by
 obtain⟨a,cap,h,_⟩:=h; exact⟨a,cap,h⟩
theorem dK{f:α→Value}{w:World}{v:Value}{l:List α}{n:Nat}(h:dS f w v l)(hn:l.length=n)(hp:0<n) :
  ∃b o cap,v = .slice (some ⟨b,o,none⟩) n cap∧b<w.heap.size∧n≤cap∧cap≤maxLen∧∀i (h:i<l.length),w.cell? ⟨b,o+i,none⟩=some (f l[i]):=by
 subst hn;obtain⟨a,cap,rfl,hm,h⟩:=h;rcases h with ⟨rfl,_⟩ | ⟨b,o,rfl,hb,hl,hc⟩
 ·simp at hp
 exact⟨b,o,cap,rfl,hb,hl,hm,hc⟩
theorem Aq{f:α→Value}{w:World}{a:Option Addr}{cap cap' n:Nat}{l:List α}(h:dS f w (.slice a l.length cap) l)(hn:n≤l.length)(hc:n≤cap')(hm:cap'≤maxLen)(ha:a=none→cap'=0) :
  dS f w (.slice a n cap') (l.take n):=by
 obtain⟨a',cap0,hv,hm0,h⟩:=h;simp only[Value.slice.injEq,true_and]at hv;obtain⟨rfl,rfl⟩:=hv;have e:(l.take n).length=n:=by simp; omega
 refine⟨a,cap',by rw[e],hm,?_⟩;rcases h with ⟨rfl,h0⟩ | ⟨b,o,rfl,hb,hl,hc0⟩
 ·exact .inl ⟨by simp,ha⟩
 exact .inr ⟨b,o,rfl,hb,by omega,fun i hi=>by rw[hc0 i (by omega)]; simp⟩
theorem aK{w w':World}{base:Nat}{e:TypeId}{size:Nat}{v:Value}{n:Nat}{xs:List Value}(h:w.ownsRow base e size v n xs)(hb:Ext w w'):w'.ownsRow base e size v n xs:=by
 obtain⟨h1,h2⟩:=h;refine⟨h1,?_⟩;rcases h2 with h2 | ⟨g,cap,cur,hv,hg,hh,r⟩
 ·exact .inl h2
 refine .inr ⟨g,cap,cur,hv,hg,?_,r⟩;have hlt:g<w.heap.size:=by
  rcases Nat.lt_or_ge g w.heap.size with h | h
  ·exact h
  rw[Array.getElem?_eq_none h]at hh; simp at hh
 rw[hb.block g hlt]; exact hh
theorem wpList_make_row{P:Program}{w:World}{ops:Array Oper}{rest:List Oper}{o:Oper}{a:Act}{Q:Exit→Act→World→Prop}
  (hg:o.guard=none) (l c:Operand) (t:TypeId) (hop:o.op=Op.makeSlice t l c)
  {e:TypeId} {z:Value} {bytes:Nat} (T:pV P t e z 1 bytes) (hz1:z.cells = #[z]) (base:Nat)
  {L:Int} (n:Nat) (hl:a.eval l = .i L) (hc:a.eval c = .i L) (hL:L=(n:Int)) (b2:bytes*n≤281474976710656) (b3:n≤maxLen) (b4:base≤w.heap.size)
  (hK:∀w',w'.ownsRow base e 1 (.slice (some ⟨w.heap.size,0,none⟩) n n) n (List.replicate n z)→w.grownBy w' none →
   wpList P ops Q rest (a.put o.dst (.slice (some ⟨w.heap.size,0,none⟩) n n)) w') :
  wpList P ops Q (o::rest) a w:=by
 obtain⟨i,hi,hz,hsz,hby⟩:=T.info;subst hby
 refine wpList_make_full w hg l c t hop base e i z 1 T.und hi hz hsz .i64 .i64 L L n hl hc hL hL b2 b3 b4 fun w' h1 h2=>hK w' ?_ h2;rw[hz1,Nat.mul_one,toList_madeCells_one]at h1;exact h1
theorem iG{B:Nat}{a w w':World}(h:Below B a w)(hg:w.grownBy w' none)(hB:B≤w.heap.size):Below B a w':=h.grown hg hB (fun _ h=>by cases h)
theorem Eu(n:Nat)(z x:α)(q:List α):(List.replicate (n+1) z++q).set n x=List.replicate n z++x::q:=by
 rw[List.replicate_succ',List.append_assoc,List.set_append];simp
theorem yK{P:Program}{w:World}{ops:Array Oper}{rest:List Oper}{o:Oper}{a:Act}{Q:Exit→Act→World→Prop}
  (hgd:o.guard=none) (s x:Operand) (t:TypeId) (ho:o.op = .call { callee := .builtin .append,args := #[s,x],argTypes := #[t,t] })
  {e:TypeId} {z:Value} {size bytes:Nat} (T:pV P t e z size bytes)
  {ad:Option Addr} {n:Nat} {xs:List Value} (hv:fK w size (.slice ad n n) n xs) (hs:a.eval s = .slice ad n n)
  {b off cap m:Nat} {ys:List Value} (hy:fK w size (.slice (some ⟨b,off,none⟩) m cap) m ys) (hx:a.eval x = .slice (some ⟨b,off,none⟩) m cap) (hm:0<m)
  (h63:n+m≤maxLen) (hbytes:(n+m)*bytes≤140737488355328)
  (h:∀v' w',w'.ownsRow w.heap.size e size v' (n+m) (xs++ys)→Ext w w'→wpList P ops Q rest (a.put o.dst v') w'):wpList P ops Q (o::rest) a w:=by
 obtain⟨i,hi,hz',hsz,hby⟩:=T.info;obtain⟨hl2,h12,hy⟩:=hy;have hys:∀(j:Nat) u,ys[j]?=some u→w.cell? ((⟨b,off,none⟩:Addr).add j)=some u:=by
  intro j u hj;have e1:(⟨b,off,none⟩:Addr).add j=⟨b,off+j,none⟩:=by unfold Addr.add; split<;>simp_all
  rw[e1];rcases hy with ⟨h0,_⟩ | ⟨b',o',cap',hv',_,_,_,hc⟩
  ·omega
  simp only[Value.slice.injEq,Option.some.injEq,Addr.mk.injEq,and_true]at hv';obtain⟨⟨rfl,rfl⟩,-,-⟩:=hv';exact hc j u hj
 obtain⟨hl1,h11,hv⟩:=hv;rcases hv with ⟨rfl,a0,c0,hv',hz⟩ | ⟨b0,o0,cap0,hv',hb0,hn0,hm0,hc0⟩
 ·have hxs:xs=[]:=List.eq_nil_of_length_eq_zero (by simpa using hl1);subst hxs;refine wpList_append_grows w hgd s x t ho e i z size bytes T.und hi hz' hsz hby T.zc T.pos ad 0 0 [] hs (fun _=>⟨rfl,rfl⟩) (by simp) (by simp) ⟨b,off,none⟩ m cap ys hx hl2 hys h12 (by omega) h63 hbytes ?_;intro v' w' h1 h2;exact h v' w' (by simpa using h1) (iG (Below.refl _ _) h2 (Nat.le_refl _))
 simp only[Value.slice.injEq]at hv';obtain⟨rfl,-,rfl⟩:=hv';refine wpList_append_arg w hgd s x t ho e i z size bytes T.und hi hz' hsz hby T.zc T.pos b0 o0 n n xs hs hl1 hc0 ⟨b,off,none⟩ m cap ys hx hl2 hys h12 (fun h=>by omega) h63 hbytes (fun h=>by omega) ?_;intro _ v' w' h1 h2;exact h v' w' h1 (iG (Below.refl _ _) h2 (Nat.le_refl _))
theorem qV{w:World}{base:Nat}{e:TypeId}{g n cap:Nat}{xs:List Value}(h:w.ownsRow base e 1 (.slice (some ⟨g,0,none⟩) n cap) n xs)(j:Nat)(hj:j<n) :
  (∃u,w.cell? ⟨g,j,none⟩=some u)∧w.frozen? ⟨g,j,none⟩=false:=by
 refine⟨⟨xs[j]'(by have:=h.1; omega),?_⟩,h.frozenAt j⟩;rw[h.cellAt j (by omega),List.getElem?_eq_getElem]
theorem jr(w:World)(x:Value)(e:TypeId)(h:x.oneCell'=true):fK (w.alloc (.cells #[x] e)) 1 (.slice (some ⟨w.heap.size,0,none⟩) 1 1) 1 [x]:=
 JU w #[x] e 1 1 rfl (by unfold maxLen; omega) (by intro u hu; simp at hu; rw[hu]; exact h)
theorem Cm{w:World}{base:Nat}{e:TypeId}{size:Nat}{v:Value}{n:Nat}{xs:List Value}(h:w.ownsRow base e size v n xs)(hn:0<n) :
  ∃g cap,v = .slice (some ⟨g,0,none⟩) n cap∧base≤g∧n≤cap∧cap≤maxLen:=by
 rcases h.2 with ⟨_,h0⟩ | ⟨g,cap,cur,hv,hg,_,hc,hm,_⟩
 ·omega
 exact⟨g,cap,hv,hg,hc,hm⟩
open Go.RowKit
theorem Vt(a b:UInt32):bits .xor .u32 (a.toNat:Int) (b.toNat:Int)=((a^^^b).toNat:Int):=by
 rw[u32_xor_nat _ _ a.toNat_lt b.toNat_lt,UInt32.toNat_xor]
theorem ba32(a b:UInt32):bits .and .u32 (a.toNat:Int) (b.toNat:Int)=((a&&&b).toNat:Int):=by
 rw[u32_and_nat _ _ a.toNat_lt b.toNat_lt,UInt32.toNat_and]
theorem aia(a b:UInt64):bits .xor .u64 (a.toNat:Int) (b.toNat:Int)=((a^^^b).toNat:Int):=by
 rw[u64_xor_nat _ _ a.toNat_lt b.toNat_lt,UInt64.toNat_xor]
theorem adi:IntKind.u32.max=4294967295:=by decide
theorem Yl(x:UInt32):(x.toNat:Int)/(2:Int)=((x>>>1).toNat:Int):=by
 rw[UInt32.toNat_shiftRight]; simp[Nat.shiftRight_eq_div_pow]
theorem Qs(x:UInt32):(x.toNat:Int)/(256:Int)=((x>>>8).toNat:Int):=by
 rw[UInt32.toNat_shiftRight]; simp[Nat.shiftRight_eq_div_pow]
theorem Ym(c:UInt8):(c.toNat:Int)%(4294967296:Int)=(c.toUInt32.toNat:Int):=by
 have:=c.toNat_lt; simp; omega
theorem wJ(x:UInt32):(x.toNat:Int)%(256:Int)=(x.toUInt8.toNat:Int):=by simp
theorem TR(x:UInt32):((x&&&1).toNat:Int)=(x.toNat:Int)%(2:Int):=by
 rw[UInt32.toNat_and]; simp[Nat.and_one_is_mod]
theorem agk(a:UInt32):bits .xor .u32 (a.toNat:Int) 3988292384=((a^^^0xedb88320).toNat:Int):=by
 have:=Vt a 3988292384; simpa using this
theorem adk(a:UInt32):bits .xor .u32 (a.toNat:Int) 4294967295=((a^^^0xffffffff).toNat:Int):=by
 have:=Vt a 4294967295; simpa using this
theorem Yn(a:UInt32):bits .xor .u32 4294967295 (a.toNat:Int)=((a^^^0xffffffff).toNat:Int):=by
 have:=Vt 4294967295 a; rw[UInt32.xor_comm]; simpa using this
theorem TS(a:UInt32):bits .and .u32 (a.toNat:Int) 1=((a&&&1).toNat:Int):=by
 have:=ba32 a 1; simpa using this
theorem adR(a:UInt32):bits .and .u32 (a.toNat:Int) 255=((a&&&255).toNat:Int):=by
 have:=ba32 a 255; simpa using this
theorem abA(x:UInt64):IntKind.u64.wrap (x.toNat:Int)=(x.toNat:Int):=by
 have:=x.toNat_lt; rw[IntKind.wrap_u64]; omega
set_option linter.unusedVariables false
open Go.RowKit
variable{α:Type}
abbrev Ch (b:Nat)(w w':World):Prop:=w.grownBy w' (some b)
theorem Ch.refl(b:Nat)(w:World):Ch b w w:=⟨rfl,rfl,rfl,Nat.le_refl _,fun _ _ _=>rfl⟩
theorem Ch.trans{b:Nat}{w w1 w2:World}(h:Ch b w w1)(k:Ch b w1 w2):Ch b w w2:=
 ⟨k.os.trans h.os,k.tape.trans h.tape,k.output.trans h.output,Nat.le_trans h.size k.size,fun i hi hn=>(k.block i (Nat.lt_of_lt_of_le hi h.size) hn).trans (h.block i hi hn)⟩
theorem Ch.jG{b:Nat}{w w':World}(h:Ext w w'):Ch b w w':=⟨h.os,h.tape,h.output,h.size,fun i hi _=>h.block i hi⟩
theorem Ch.drewN{b:Nat}{w w':World}(h:Ch b w w')(n:Nat):Ch b w (w'.drewN n):=Ch.trans h (Ch.jG (below_drewN (Below.refl _ _) n))
theorem Ch.setCell{b:Nat}{w w':World}(h:Ch b w w')(o:Nat)(v:Value):Ch b w (w'.setCell ⟨b,o,none⟩ v):=
 Ch.trans h ⟨rfl,rfl,rfl,by simp[World.setCell],fun k _ hk=>Below.heap_setCell _ _ _ _ (fun e=>hk (by rw[e]))⟩
theorem Ch.cell{b:Nat}{w w':World}(h:Ch b w w'){p:Addr}(hp:p.block<w.heap.size)(hb:p.block≠b):w'.cell? p=w.cell? p:=
 World.cell?_of_block (h.block _ hp (fun e=>hb (by simpa using e)))
theorem Ch.frozen{b:Nat}{w w':World}(h:Ch b w w'){p:Addr}(hp:p.block<w.heap.size)(hb:p.block≠b):w'.frozen? p=w.frozen? p:=
 World.frozen?_of_block (h.block _ hp (fun e=>hb (by simpa using e)))
theorem Ch.below{b B:Nat}{w w':World}(h:Ch b w w')(hb:B≤b)(hs:B≤w.heap.size):Below B w w':=⟨h.os,h.tape,h.output,h.size,fun k hk=>h.block k (by omega) (fun e=>by simp at e; omega)⟩
def Off(b:Nat)(v:Value):Prop:=∀ad n cap,v = .slice (some ad) n cap→ad.block≠b
theorem dS.ch{f:α→Value}{b:Nat}{w w':World}{v:Value}{l:List α}(h:dS f w v l)(hc:Ch b w w')(ho:0<l.length→Off b v):dS f w' v l:=by
 obtain⟨a,cap,rfl,hm,h⟩:=h;refine⟨a,cap,rfl,hm,?_⟩;rcases h with h | ⟨bb,o,rfl,hlt,hl,hcs⟩
 ·exact .inl h
 exact .inr ⟨bb,o,rfl,by have:=hc.size; omega,hl,fun i hi=>by rw[hc.cell (p:=⟨bb,o+i,none⟩) hlt (ho (by omega) ⟨bb,o,none⟩ _ _ rfl)]; exact hcs i hi⟩
theorem abB{f:α→Value}{w:World}{v:Value}{l:List α}(h:dS f w v l){b:Nat}(hb:w.heap.size≤b):0<l.length→Off b v:=by
 intro h0 ad n cap hv;obtain⟨bb,o,cap',hv',hlt,_⟩:=dK h rfl h0;rw[hv']at hv;simp only[Value.slice.injEq,Option.some.injEq]at hv;rw[←hv.1]; simp only; omega
theorem kH{w w1:World}{cs:Array Value}{t:TypeId}(hb:Ext (w.alloc (.cells cs t)) w1) :
  (∀i,w1.cell? ⟨w.heap.size,i,none⟩=cs[i]?)∧(∀i,w1.frozen? ⟨w.heap.size,i,none⟩=false)∧w.heap.size<w1.heap.size:=by
 refine⟨fun i=>?_,fun i=>?_,by have:=hb.size; simp at this; omega⟩
 ·rw[hb.cell (p:=⟨w.heap.size,i,none⟩) (by simp),World.cell?_alloc_at _ _ _ _ rfl]
 rw[hb.frozen (p:=⟨w.heap.size,i,none⟩) (by simp),World.frozen?_alloc_at _ _ _ _ rfl]
def From(base:Nat)(v:Value):Prop:=∀ad n cap,v = .slice (some ad) n cap→base≤ad.block
theorem From.mono{base base':Nat}{v:Value}(h:From base v)(hb:base'≤base):From base' v:=fun ad n cap e=>Nat.le_trans hb (h ad n cap e)
theorem From.off{base b:Nat}{v:Value}(h:From base v)(hb:b<base):Off b v:=fun ad n cap e=>by have:=h ad n cap e; omega
theorem MW{w:World}{base:Nat}{e:TypeId}{size:Nat}{v:Value}{n:Nat}{xs:List Value}(h:w.ownsRow base e size v n xs):From base v:=by
 intro ad n' cap hv;subst hv;exact(World.ownsRow.lt h ad.block rfl).1
theorem adS{w w':World}{base b:Nat}{e:TypeId}{size:Nat}{v:Value}{n:Nat}{xs:List Value}(h:w.ownsRow base e size v n xs)(hc:Ch b w w')(hb:b<base):w'.ownsRow base e size v n xs:=by
 refine h.kept hc ?_;have hlt:=h.lt;cases hv:v.ownBlock with
 | none=>exact .inl rfl
 | some k =>
  right;intro e';have h1:=(hlt k hv).1;simp only[Option.some.injEq]at e';omega
open Go.RowKit
variable{α:Type}
theorem MX{Q:Nat→α→Prop}(n:Nat)(h:∀i,i<n→∃y,Q i y):∃l:List α,l.length=n∧∀i (h:i<l.length),Q i l[i]:=by
 induction n with
 | zero=>exact⟨[],rfl,fun i h=>absurd h (by simp)⟩
 | succ n ih =>
  obtain⟨l,hl,hq⟩:=ih fun i hi=>h i (by omega);obtain⟨y,hy⟩:=h n (by omega);refine⟨l++[y],by simp[hl],fun i hi=>?_⟩;rcases Nat.lt_or_ge i l.length with h1 | h1
  ·rw[List.getElem_append_left h1]; exact hq i h1
  obtain rfl:i=n:=by simp at hi; omega
  rw[List.getElem_append_right h1]; simpa[hl]using hy
section
variable{H:Type}{enc:TypeId×Value→H}{P:Program}{w:World}{sp:Nat→Bool}{held:Bool}
theorem mapM_some{β γ:Type}{f:β→Option γ}{l:List β}{r:List γ}(h:l.mapM f=some r):r.length=l.length∧∀x∈l,∃y,f x=some y:=by
 induction l generalizing r with
 | nil=>simp at h; subst h; simp
 | cons a l ih =>
  simp only[List.mapM_cons,Option.bind_eq_bind,Option.bind_eq_some_iff]at h;obtain⟨y,hy,ys,hys,he⟩:=h;obtain⟨h1,h2⟩:=ih hys;simp only[Option.pure_def,Option.some.injEq]at he;subst he;refine⟨by simp[h1],fun x hx=>?_⟩;rcases List.mem_cons.1 hx with rfl | hx
  ·exact⟨y,hy⟩
  exact h2 x hx
theorem trod_slice{t e:TypeId}(ht:P.underlying t=some (.slice e)){fuel:Nat}{a:Option Addr}{len cap:Nat}{d:DataW H}{ps:List MemPlace}
  (h:DataW.trod enc P w 0 sp held fuel t [.slice a len cap]=some (d,ps)) :
  (a=none∧len=0∧cap=0∧d = .nil)∨∃ad elems rest,a=some ad∧len≤cap∧cap≤maxLen∧d = .slice elems rest∧elems.length=len ∧
   ∃fuel',∀i,i<len→∃cs d' p',w.cells? 0 (ad.add (i*P.cellsOf e)) (P.cellsOf e)=some cs∧DataW.trod enc P w 0 sp held fuel' e cs=some (d',p'):=by
 cases fuel with
 | zero=>simp[DataW.trod]at h
 | succ fuel =>
  rcases a with _ | ad
  ·by_cases hz:len=0∧cap=0
   ·obtain⟨rfl,rfl⟩:=hz;simp only[DataW.trod,ht,Option.some.injEq,Prod.mk.injEq]at h;exact .inl ⟨rfl,rfl,rfl,h.1.symm⟩
   exfalso;simp only[DataW.trod,ht]at h;split at h<;>simp_all
  simp only[DataW.trod,ht]at h;split at h
  ·rename_i hb;simp only[Option.bind_eq_some_iff,Option.map_eq_some_iff]at h;obtain⟨elems,he,rest,hr,hd⟩:=h;simp only[Prod.mk.injEq]at hd;obtain⟨h1,h2⟩:=mapM_some he;refine .inr ⟨ad,_,_,rfl,hb.2.1,hb.2.2,hd.1.symm,by simpa using h1,fuel,fun i hi=>?_⟩;obtain⟨⟨d',p'⟩,hy⟩:=h2 i (by simpa using hi);simp only[Option.bind_eq_some_iff]at hy;obtain⟨cs,hcs,ht'⟩:=hy;exact⟨cs,d',p',hcs,ht'⟩
  simp at h
theorem cell_lt{a:Addr}{x:Value}(h:w.cell? a=some x):a.block<w.heap.size:=by
 unfold World.cell? at h;rcases Nat.lt_or_ge a.block w.heap.size with h' | h'
 ·exact h'
 rw[Array.getElem?_eq_none h']at h; simp at h
theorem cell_spot{a:Addr}{x:Value}(h:w.cell? a=some x):a.spot=none:=by
 unfold World.cell? at h;split at h
 ·cases e:a.spot
  ·rfl
  simp[e]at h
 simp at h
theorem Yo{a:Addr}(h:a.spot=none)(n:Nat):a.add n=⟨a.block,a.off+n,none⟩:=by
 obtain⟨b,o,s⟩:=a;simp at h;subst h;unfold Addr.add;split<;>simp_all
theorem adT{n:Int}(h:(Lit.int .u8 n).wf=true):∃c:UInt8,Value.int .u8 n=dY c:=by
 have hb:=bounds_u8 h;exact⟨UInt8.ofNat n.toNat,by congr 1; simp; omega⟩
theorem abC{n:Int}(h:(Lit.int .u32 n).wf=true):∃c:UInt32,Value.int .u32 n=aY c:=by
 have hb:=bounds_u32 h;exact⟨UInt32.ofNat n.toNat,by congr 1; simp; omega⟩
end
end Go.Proofs.YtapmgonflgahbaaGreatDoor
