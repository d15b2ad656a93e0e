/- Ground for every seat: byte -/
import Derived.WalkKit
import Derived.WalkLawsBesides
import Derived.WalkSpells
import Derived.Lib.Hide
import Derived.Laws.AppendOwnNone
import Derived.Lib.SliceRun
import Derived.Laws.BytesArg
import Derived.Deep.QuietTactic
import Derived.BigQuiet
import Derived.ProofKit
import Derived.OpenShut
import Derived.ShutString
import Derived.ChangeOld
import Derived.StillTail
import Derived.MapKept
import Derived.Tactics
set_option maxHeartbeats 9999999
@[match_pattern]abbrev Go.Value.s(a:Option Go.Addr)(l c:Nat):Go.Value:=.slice a l c
@[match_pattern]abbrev Go.Value.b(x:Bool):Go.Value:=.bool x
@[match_pattern]abbrev Go.Ending.R(v:Go.Value):Go.Ending:=.returned v
abbrev I{α:Sort _}{a:α}:a=a:=rfl
abbrev Z{p:Prop}(h:p:=by omega):p:=h
abbrev G:True:=trivial
abbrev X{p:Prop}(h:p:=by kernel_rfl):p:=h
abbrev Y{p:Prop}(h:p:=by simp):p:=h
abbrev O{p:Prop}(h:p:=by decide):p:=h
abbrev Go.Value.i(x:Int):Go.Value:=.int .i64 x
@[match_pattern]abbrev Go.Value.sn:Go.Value:=.slice none 0 0
@[match_pattern]abbrev Go.Value.u(x:Int):Go.Value:=.int .u8 x
@[match_pattern]abbrev Go.Value.q(b o:Nat):Go.Value:=.pointer (some ⟨b,o,none⟩)
@[match_pattern]abbrev Go.Value.z:Go.Value:=.bool false
abbrev azo:=@Nat.mul_lt_mul_of_pos_right
abbrev azn:=@Nat.mul_lt_mul_of_pos_left
abbrev azm:=@Nat.lt_of_mul_lt_mul_left
abbrev azl:=@List.length_singleton
abbrev azk:=@List.getElem_cons_drop
abbrev azj:=@List.map_inj_left
abbrev azi:=@List.eq_nil_iff_forall_not_mem
abbrev azh:=@Bool.eq_false_or_eq_true
abbrev azg:=@Nat.add_sub_cancel_left
abbrev azf:=@Nat.div_lt_iff_lt_mul
abbrev aze:=@Nat.le_of_lt_succ
abbrev azd:=@List.replicate_succ
abbrev azc:=@Except.ok.injEq
abbrev azb:=@List.getElem_cons_zero
abbrev aza:=@List.drop_zero
abbrev ay9:=@List.any_eq_true
abbrev ay8:=@Nat.gcd_pos_of_pos_right
abbrev ay7:=@List.all_cons
abbrev ay6:=@decide_eq_decide
abbrev ay5:=@List.map_replicate
abbrev ay4:=@List.replicate_zero
abbrev ay3:=@Nat.lt_trichotomy
abbrev ay2:=@Nat.div_eq_of_lt
abbrev ay1:=@Nat.add_mul_div_left
abbrev ay0:=@UInt32.toNat_shiftRight
abbrev ayZ:=@List.contains_iff_mem
abbrev ayY:=@List.drop_left
abbrev ayX:=@Go.World.size_alloc
abbrev ayW:=@List.map_take
abbrev ayV:=@List.mem_of_mem_drop
abbrev ayU:=@List.map_toArray
abbrev ayT:=@Bool.false_or
abbrev ayS:=@Go.World.ownsRow_nil
abbrev ayR:=@Nat.pow_pos
abbrev ayQ:=@Nat.lt_of_le_of_lt
abbrev ayP:=@List.getElem_take
abbrev ayO:=@Int.natCast_mul
abbrev ayN:=@Prod.mk.inj
abbrev ayM:=@Nat.gcd_dvd_right
abbrev ayL:=@Array.toArray_toList
abbrev ayK:=@Nat.le_of_eq
abbrev ayJ:=@Bool.false_eq_true
abbrev ayI:=@Nat.shiftRight_eq_div_pow
abbrev Ϧ:=@List.filterMap_cons
abbrev ϧ:=@Go.rounds_succ
abbrev ayF:=@Bool.and_assoc
abbrev Ϩ:=@UInt8.toNat_inj
abbrev ϩ:=@Nat.mul_left_comm
abbrev Ϫ:=@List.length_nil
abbrev ϫ:=@Go.Sem.run_pure
abbrev ϐ:=@List.mem_append_left
abbrev ϑ:=@Array.all_eq_true'
abbrev ϒ:=@Go.World.ownsRow_lit
abbrev ϓ:=@Nat.div_lt_of_lt_mul
abbrev ϔ:=@Nat.div_le_self
abbrev ϕ:=@Nat.mul_pos
abbrev ϖ:=@Go.Result.andThen_ok
abbrev Ι:=@List.drop_drop
abbrev Κ:=@Nat.sub_self
abbrev Λ:=@Nat.add_zero
abbrev Μ:=@Nat.mul_le_mul
abbrev Ν:=@Nat.pow_add
abbrev ϗ:=@Nat.mod_eq_of_lt
abbrev aym:=@List.mem_range
abbrev Ϙ:=@Go.RowKit.Below.trans
abbrev ų:=@Except.error.injEq
abbrev Ŵ:=@List.length_drop
abbrev ŵ:=@List.nodup_cons
abbrev Ξ:=@Nat.add_assoc
abbrev ϙ:=@Nat.le_of_lt
abbrev Ŷ:=@beq_self_eq_true
abbrev Ο:=@Option.bind_some
abbrev ţ:=@List.mem_of_mem_take
abbrev Ť:=@Int.natAbs_natCast
abbrev ť:=@Array.mk.injEq
abbrev Ŧ:=@Go.Value.agg.injEq
abbrev Ş:=@List.mem_append_right
abbrev ş:=@Int.toNat_natCast
abbrev Š:=@List.map_set
abbrev ŧ:=@Nat.add_comm
abbrev Ϭ:=@Nat.min_eq_left
abbrev ŷ:=@Bool.or_eq_true
abbrev Ÿ:=@Go.Addr.mk.injEq
abbrev Ř:=@Go.IntKind.wrap_i64
abbrev ř:=@UInt32.toNat_inj
abbrev Ś:=@Nat.mod_add_div
abbrev š:=@Go.wp_region_any
abbrev Ő:=@Bool.not_eq_false'
abbrev ő:=@Nat.mul_le_mul_right
abbrev Œ:=@Nat.add_mul
abbrev œ:=@Nat.two_pow_pos
abbrev Ŕ:=@Nat.mul_succ
abbrev ś:=@Bool.not_eq_true'
abbrev ŉ:=@List.flatMap_append
abbrev Ŋ:=@List.mem_cons_of_mem
abbrev ŋ:=@List.nodup_append
abbrev Ō:=@List.mem_filterMap
abbrev ō:=@List.cons_append
abbrev ŕ:=@Bool.false_and
abbrev Ņ:=@Go.wp_exit
abbrev ņ:=@List.append_nil
abbrev Ň:=@Nat.mod_lt
abbrev ň:=@List.take_append_drop
abbrev Ŏ:=@Go.IntKind.wrap_u64
abbrev ł:=@List.flatMap_cons
abbrev Ń:=@List.drop_eq_nil_of_le
abbrev Ŝ:=@List.eq_nil_of_length_eq_zero
abbrev ŀ:=@List.map_nil
abbrev Ľ:=@List.length_take
abbrev ľ:=@decide_eq_false
abbrev ļ:=@Bool.true_and
abbrev ĸ:=@Nat.pow_le_pow_right
abbrev Ĺ:=@List.length_cons
abbrev ĵ:=@List.nil_append
abbrev Ķ:=@List.drop_eq_getElem_cons
abbrev į:=@Option.isSome_iff_exists
abbrev İ:=@decide_eq_true
abbrev ķ:=@Go.Sem.run_bind
abbrev ı:=@List.take_succ_eq_append_getElem
abbrev ĩ:=@Bool.eq_iff_iff
abbrev ĭ:=@List.append_assoc
abbrev Ĩ:=@Go.wp_block
abbrev ĥ:=@List.map_append
abbrev Ħ:=@List.take_length
abbrev Ĳ:=@Nat.zero_add
abbrev Ģ:=@List.length_map
abbrev ģ:=@List.cons.injEq
abbrev ĳ:=@Nat.lt_or_ge
abbrev ġ:=@List.lookup_cons
abbrev ğ:=@Nat.mul_assoc
abbrev Ĝ:=@List.take_of_length_le
abbrev ĝ:=@Nat.mul_le_mul_left
abbrev Ğ:=@Nat.pow_succ
abbrev Ę:=@Option.map_some
abbrev ę:=@Nat.eq_zero_or_pos
abbrev Ě:=@Nat.mul_comm
abbrev Ĕ:=@Bool.or_eq_false_iff
abbrev đ:=@List.mem_append
abbrev Ē:=@List.map_cons
abbrev Ć:=@List.mem_map
abbrev Ĉ:=@Go.Value.slice.injEq
abbrev þ:=@List.getElem_mem
abbrev ÿ:=@Go.wp_skip
abbrev Ā:=@List.mem_singleton
abbrev ā:=@Nat.lt_of_lt_of_le
abbrev ø:=@List.all_eq_true
abbrev õ:=@Nat.mul_add
abbrev ù:=@Go.RowKit.Below.refl
abbrev ñ:=@of_decide_eq_false
abbrev ð:=@decide_eq_false_iff_not
abbrev ë:=@List.mem_cons_self
abbrev ì:=@List.length_append
abbrev ï:=@Nat.le_trans
abbrev å:=@of_decide_eq_true
abbrev ç:=@List.mem_cons
abbrev æ:=@Bool.and_eq_true
abbrev ä:=@beq_eq_false_iff_ne
abbrev ß:=@Go.wp_seq_k
abbrev Ý:=@decide_eq_true_eq
abbrev Û:=@beq_iff_eq
abbrev Ü:=@Option.some.inj
abbrev Õ:=@Nat.zero_le
abbrev Ô:=@Prod.mk.injEq
abbrev Ò:=@Option.some.injEq
abbrev Ñ:=@congrArg
abbrev Ó:=@Nat.le_refl
abbrev Ï:=@if_pos
abbrev É:=@if_neg
abbrev Â:=@Go.Lib.hid
section
namespace Go.Proofs.Pv
open Go.RowKit
variable{α:Type}
def dJ(f:α->Value)(w:World)(v:Value)(l:List α):Prop:=
 ∃a cap,v = .slice a l.length cap∧cap<=maxLen ∧
  ((l=[]∧(a=none->cap=0)) ∨
   ∃b o,a=some ⟨b,o,none⟩∧b<w.heap.size∧l.length<=cap∧∀i (h:i<l.length),w.cell? ⟨b,o+i,none⟩=some (f l[i]))
abbrev iO (x:UInt8):Value := .u (x.toNat:Int)
abbrev aU (x:UInt32):Value := .int .u32 (x.toNat:Int)
abbrev agF (x:UInt64):Value := .int .u64 (x.toNat:Int)
abbrev bI (w:World)(v:Value)(l:List UInt8):Prop:=dJ iO w v l
abbrev dJ.below{f:α->Value}{w w':World}{v:Value}{l:List α}(h:dJ f w v l)(hb:Below w.heap.size w w'):dJ f w' v l:=by
 obtain⟨a,cap,hv,hm,h⟩:=h;refine⟨a,cap,hv,hm,?_⟩;rcases h with h | ⟨b,o,ha,hlt,hl,hc⟩
 .exact .inl h
 exact .inr ⟨b,o,ha,by have:=hb.size; omega,hl,λi hi=>by rw[hb.cell (p:=⟨b,o+i,none⟩) hlt]; exact hc i hi⟩
abbrev rM{f:α->Value}{w:World}{a:Option Addr}{cap:Nat}{l:List α}(hm:cap<=maxLen)
  (h:(l=[]∧(a=none->cap=0)) ∨
   ∃b o,a=some ⟨b,o,none⟩∧b<w.heap.size∧l.length<=cap∧∀i (h:i<l.length),w.cell? ⟨b,o+i,none⟩=some (f l[i])) :
  l.length<=9223372036854775807:=by
 unfold maxLen at hm;rcases h with ⟨rfl,_⟩ | ⟨_,_,_,_,h,_⟩
 .simp
 omega
abbrev eX{k:IntKind}{a b:Int}(h:a=b):Ending.returned (.int k a) = .returned (.int k b):=by rw[h]
abbrev Gh{k:IntKind}{a b:Int}(h:a=b):Value.int k a = .int k b:=by rw[h]
def dN(w:World)(size:Nat)(v:Value)(n:Nat)(xs:List Value):Prop:=
 xs.length=n*size∧(∀u∈xs,u.oneCell'=true) ∧
  ((n=0∧∃a cap,v = .slice a 0 cap∧(a=none->cap=0)) ∨
   ∃b o cap,v = .slice (some ⟨b,o,none⟩) n cap∧b<w.heap.size∧n<=cap∧cap<=maxLen∧∀(j:Nat) u,xs[j]?=some u->w.cell? ⟨b,o+j,none⟩=some u)
abbrev dJ.raw{f:α->Value}(hf:∀x,(f x).oneCell'=true){w:World}{v:Value}{l:List α}(h:dJ f w v l):dN w 1 v l.length (l.map f):=by
 obtain⟨a,cap,rfl,hm,h⟩:=h;refine⟨by simp,by simpa using λx _=>hf x,?_⟩;rcases h with ⟨rfl,hz⟩ | ⟨b,o,rfl,hb,hl,hc⟩
 .exact .inl ⟨rfl,a,cap,rfl,hz⟩
 refine .inr ⟨b,o,cap,rfl,hb,hl,hm,λj u hj=>?_⟩;have hlt:j<l.length:=by
  have:=(List.getElem?_eq_some_iff.1 hj).1; simpa using this
 rw[hc j hlt];simpa[List.getElem?_eq_getElem hlt]using hj
abbrev aS{f:α->Value}{w:World}{base:Nat}{e:TypeId}{v:Value}{l:List α}(h:w.ownsRow base e 1 v l.length (l.map f)):dJ f w v l:=by
 have hlt:=h.lt;rcases h.2 with ⟨rfl,h0⟩ | ⟨g,cap,cur,rfl,hb,hg,hn,hm,hc,ht⟩
 .exact⟨none,0,by rw[h0],Nat.zero_le _,.inl ⟨List.eq_nil_of_length_eq_zero h0,λ_=>rfl⟩⟩
 refine⟨_,cap,rfl,hm,.inr ⟨g,0,rfl,(hlt g rfl).2,hn,λi hi=>?_⟩⟩;rw[Nat.zero_add,h.cellAt i (by omega)];simp[List.getElem?_eq_getElem hi]
structure gu (P:Program) (t e:TypeId) (z:Value) (size bytes:Nat):Prop where
 und:P.underlying t=some (.slice e)
 info:∃i,P.info? e=some i∧i.zero=some z∧i.size=size∧i.bytes=bytes
 zc:z.cells.size=size
 pos:0<size
abbrev bD{P:Program}{w:World}{ops:Array Oper}{rest:List Oper}{o:Oper}{a:Act}{Q:Exit->Act->World->Prop}
  (hgd:o.guard=none) (s x:Operand) (t:TypeId) (ho:o.op = .call { callee := .builtin .append,args := #[s,x],argTypes := #[t,t] })
  {e:TypeId} {z:Value} {size bytes:Nat} (T:gu P t e z size bytes) (base:Nat)
  {v:Value} {n:Nat} {xs:List Value} (hown:w.ownsRow base e size v n xs) (hs:a.eval s=v)
  {y:Value} {m:Nat} {ys:List Value} (hy:dN w size y m ys) (hx:a.eval x=y)
  (h63:n+m<=maxLen) (hbytes:(n+m)*bytes<=140737488355328) (hbase:base<=w.heap.size)
  (h:∀v' w',w'.ownsRow base e size v' (n+m) (xs++ys)->w.grownBy w' v.ownBlock->wpList P ops Q rest (a.put o.dst v') w'):wpList P ops Q (o::rest) a w:=by
 obtain⟨i,hi,hz',hsz,hby⟩:=T.info;obtain⟨hl,h1,hy⟩:=hy;rcases hy with ⟨rfl,ad,cap,rfl,hz⟩ | ⟨b,off,cap,rfl,hb,hn,hm,hc⟩
 .have:ys=[]:=List.eq_nil_of_length_eq_zero (by simpa using hl);subst this;rcases ad with _ | ad;case some =>
   refine wpList_append_own w hgd s x t ho base e i z size bytes T.und hi hz' hsz hby T.zc T.pos v n xs hs hown ad 0 cap [] hx (by simp) (by simp) (by simp) h63 hbytes hbase ?_;intro v' w' h2 h3 _; exact h v' w' h2 h3
  obtain rfl:=hz rfl;refine wpList_append_own_none hgd s x t ho base e i size T.und hi v n xs hs hown hx ?_;exact h v w (by simpa using hown) ⟨rfl,rfl,rfl,Nat.le_refl _,λ_ _ _=>rfl⟩
 refine wpList_append_own w hgd s x t ho base e i z size bytes T.und hi hz' hsz hby T.zc T.pos v n xs hs hown ⟨b,off,none⟩ m cap ys hx hl ?_ h1 h63 hbytes hbase ?_
 .intro j u hj;have:(⟨b,off,none⟩:Addr).add j=⟨b,off+j,none⟩:=by unfold Addr.add; split<;>simp_all
  rw[this]; exact hc j u hj
 intro v' w' h2 h3 _; exact h v' w' h2 h3
abbrev wK{P:Program}{w:World}{src e dst:TypeId}(hs:P.underlying src=some (.slice e))(he:P.underlying e=some (.int .u8))(hd:P.underlying dst=some .string)
  {v:Value} {l:List UInt8} (h:bI w v l):(convert src dst v).run P w = .ok (.string ⟨l.toArray⟩) w:=by
 obtain⟨a,cap,rfl,hm,h⟩:=h;rcases h with ⟨rfl,hz⟩ | ⟨b,o,rfl,hb,hl,hc⟩
 .rcases a with _ | ad
  .exact run_convert_bytes_nil w src e hs he _ _ dst hd
  have hl:(loadCells ad 0).run P w = .ok (([]:List Int).map (Value.int .u8)).toArray w:=by simpa using run_loadCells_list (P:=P) w ad [] (by simp)
  rw[run_convert_bytes_string w src dst e _ _ cap hs he hd];exact(run_bytesToString w ad 0 cap [] hl).trans rfl
 rw[run_convert_bytes_arg w src e hs he b o l.length cap (l.map λc=>(c.toNat:Int)) (by simp) ?_ dst hd]
 .congr 2;simp only[strOfNums,List.map_map];congr 2;rw[List.map_congr_left (g:=id) (λc _=>by simp)]; simp
 intro i hi;rw[hc i hi]; simp[List.getElem?_eq_getElem hi]
def G8(R:World->Value->α->Prop)(w:World)(v:Value)(l:List α):Prop:=
 ∃a cap,v = .slice a l.length cap∧cap<=maxLen ∧
  ((l=[]∧(a=none->cap=0)) ∨
   ∃b o,a=some ⟨b,o,none⟩∧b<w.heap.size∧l.length<=cap∧∀i (h:i<l.length),∃x,w.cell? ⟨b,o+i,none⟩=some x∧R w x l[i])
abbrev G8.below{R:World->Value->α->Prop}(hR:∀w w' x y,Below w.heap.size w w'->R w x y->R w' x y){w w':World}{v:Value}{l:List α}
  (h:G8 R w v l) (hb:Below w.heap.size w w'):G8 R w' v l:=by
 obtain⟨a,cap,hv,hm,h⟩:=h;refine⟨a,cap,hv,hm,?_⟩;rcases h with h | ⟨b,o,ha,hlt,hl,hc⟩
 .exact .inl h
 refine .inr ⟨b,o,ha,by have:=hb.size; omega,hl,λi hi=>?_⟩;obtain⟨x,hx,hr⟩:=hc i hi;exact⟨x,by rw[hb.cell (p:=⟨b,o+i,none⟩) hlt]; exact hx,hR _ _ _ _ hb hr⟩
abbrev yD (w:World)(v:Value)(ls:List (List UInt8)):Prop:=G8 bI w v ls
abbrev acj{R:World->Value->α->Prop}{w:World}{a:Option Addr}{cap:Nat}{l:List α}(hm:cap<=maxLen)
  (h:(l=[]∧(a=none->cap=0)) ∨
   ∃b o,a=some ⟨b,o,none⟩∧b<w.heap.size∧l.length<=cap∧∀i (h:i<l.length),∃x,w.cell? ⟨b,o+i,none⟩=some x∧R w x l[i]) :
  l.length<=9223372036854775807:=by
 unfold maxLen at hm;rcases h with ⟨rfl,_⟩ | ⟨_,_,_,_,h,_⟩
 .simp
 omega
abbrev take_snoc(l:List α)(k:Nat)(h:k<l.length):l.take (k+1)=l.take k++[l[k]]:=by
 rw[List.take_succ_eq_append_getElem h]
abbrev dN.below{w w':World}{size:Nat}{v:Value}{n:Nat}{xs:List Value}(h:dN w size v n xs)(hb:Below w.heap.size w w'):dN w' size v n xs:=by
 obtain⟨h1,h2,h⟩:=h;refine⟨h1,h2,?_⟩;rcases h with h | ⟨b,o,cap,hv,hlt,hl,hm,hc⟩
 .exact .inl h
 exact .inr ⟨b,o,cap,hv,by have:=hb.size; omega,hl,hm,λj u hj=>by rw[hb.cell (p:=⟨b,o+j,none⟩) hlt]; exact hc j u hj⟩
abbrev DL{w:World}{size:Nat}{v:Value}{n:Nat}{xs:List Value}(h:dN w size v n xs)(o:Obj):dN (w.alloc o) size v n xs:=
 h.below ((Below.refl _ _).alloc (Nat.le_refl _) o)
abbrev dJ.len{f:α->Value}{w:World}{v:Value}{l:List α}(h:dJ f w v l):l.length<=maxLen:=by
 obtain⟨a,cap,rfl,hm,h⟩:=h;rcases h with ⟨rfl,_⟩ | ⟨b,o,rfl,hb,hl,hc⟩
 .simp
 omega
abbrev NH(w:World)(cs:Array Value)(e:TypeId)(n size:Nat)(hs:cs.size=n*size)(hm:n<=maxLen)(h1:∀u∈cs.toList,u.oneCell'=true) :
  dN (w.alloc (.cells cs e)) size (.slice (some ⟨w.heap.size,0,none⟩) n n) n cs.toList:=by
 refine⟨by simpa using hs,h1,.inr ⟨w.heap.size,0,n,rfl,by simp,Nat.le_refl _,hm,λj u hj=>?_⟩⟩;rw[Nat.zero_add,World.cell?_alloc_at _ _ _ _ rfl]; simpa using hj
abbrev NI{f:α->Value}(w:World)(l:List α)(e:TypeId)(hm:l.length<=maxLen) :
  dJ f (w.alloc (.cells (l.map f).toArray e)) (.slice (some ⟨w.heap.size,0,none⟩) l.length l.length) l:=by
 refine⟨_,_,rfl,hm,.inr ⟨_,_,rfl,by simp,Nat.le_refl _,λi hi=>?_⟩⟩;rw[Nat.zero_add,World.cell?_alloc_at _ _ _ _ rfl]; simp[List.getElem?_eq_getElem hi]
abbrev Yc{R:World->Value->α->Prop}(w:World)(x:Value)(y:α)(e:TypeId)(h:R (w.alloc (.cells #[x] e)) x y) :
  G8 R (w.alloc (.cells #[x] e)) (.slice (some ⟨w.heap.size,0,none⟩) 1 1) [y]:=by
 refine⟨_,_,rfl,by unfold maxLen; omega,.inr ⟨_,_,rfl,by simp,Nat.le_refl _,λi hi=>?_⟩⟩;have:i=0:=by simpa using hi
 subst this;exact⟨x,by rw[World.cell?_alloc_at _ _ _ _ rfl]; simp,h⟩
abbrev bK{w:World}{base base':Nat}{e:TypeId}{size:Nat}{v:Value}{n:Nat}{xs:List Value}(h:w.ownsRow base e size v n xs)(hb:base'<=base):w.ownsRow base' e size v n xs:=by
 obtain⟨h1,h2⟩:=h;refine⟨h1,?_⟩;rcases h2 with h2 | ⟨g,cap,cur,hv,hg,r⟩
 .exact .inl h2
 exact .inr ⟨g,cap,cur,hv,by omega,r⟩
abbrev aH(w:World)(o:Obj):Below w.heap.size w (w.alloc o):=(Below.refl _ _).alloc (Nat.le_refl _) o
abbrev acn{f:α->Value}{w:World}{b o cap n:Nat}{l:List α}(hb:b<w.heap.size)(hl:l.length<=cap)(hm:cap<=maxLen)(hn:n<=l.length)
  (hc:∀i (h:i<l.length),w.cell? ⟨b,o+i,none⟩=some (f l[i])):dJ f w (.slice (some ⟨b,o,none⟩) n cap) (l.take n):=by
 have e:(l.take n).length=n:=by simp; omega
 refine⟨_,cap,by rw[e],hm,.inr ⟨b,o,rfl,hb,by omega,λi hi=>?_⟩⟩;rw[hc i (by omega)]; simp
abbrev Gi{f:α->Value}(w:World):dJ f w (.sn) []:=⟨none,0,rfl,Nat.zero_le _,.inl ⟨rfl,λ_=>rfl⟩⟩
abbrev Ext (w w':World):Prop:=Below w.heap.size w w'
abbrev ô{w:World}:Ext w w:=Below.refl _ _
abbrev Ã{a b c:World}(h1:Ext a b)(h2:Ext b c):Ext a c:=Below.trans h1 (Below.mono h2 h1.size)
abbrev aF (w:World)(v:Value)(l:List UInt32):Prop:=dJ aU w v l
abbrev dJ.shape{f:α->Value}{w:World}{v:Value}{l:List α}(h:dJ f w v l):∃a cap,v = .slice a l.length cap:=by
 obtain⟨a,cap,h,_⟩:=h; exact⟨a,cap,h⟩
abbrev dH{f:α->Value}{w:World}{v:Value}{l:List α}{n:Nat}(h:dJ f w v l)(hn:l.length=n)(hp:0<n) :
  ∃b o cap,v = .slice (some ⟨b,o,none⟩) n cap∧b<w.heap.size∧n<=cap∧cap<=maxLen∧∀i (h:i<l.length),w.cell? ⟨b,o+i,none⟩=some (f l[i]):=by
 subst hn;obtain⟨a,cap,rfl,hm,h⟩:=h;rcases h with ⟨rfl,_⟩ | ⟨b,o,rfl,hb,hl,hc⟩
 .simp at hp
 exact⟨b,o,cap,rfl,hb,hl,hm,hc⟩
abbrev Gj{f:α->Value}{w:World}{a:Option Addr}{cap cap' n:Nat}{l:List α}(h:dJ f w (.slice a l.length cap) l)(hn:n<=l.length)(hc:n<=cap')(hm:cap'<=maxLen)(ha:a=none->cap'=0) :
  dJ f w (.slice a n cap') (l.take n):=by
 obtain⟨a',cap0,hv,hm0,h⟩:=h;simp only[Value.slice.injEq,true_and]at hv;obtain⟨rfl,rfl⟩:=hv;have e:(l.take n).length=n:=by simp; omega
 refine⟨a,cap',by rw[e],hm,?_⟩;rcases h with ⟨rfl,h0⟩ | ⟨b,o,rfl,hb,hl,hc0⟩
 .exact .inl ⟨by simp,ha⟩
 exact .inr ⟨b,o,rfl,hb,by omega,λi hi=>by rw[hc0 i (by omega)]; simp⟩
abbrev dO{w w':World}{base:Nat}{e:TypeId}{size:Nat}{v:Value}{n:Nat}{xs:List Value}(h:w.ownsRow base e size v n xs)(hb:Ext w w'):w'.ownsRow base e size v n xs:=by
 obtain⟨h1,h2⟩:=h;refine⟨h1,?_⟩;rcases h2 with h2 | ⟨g,cap,cur,hv,hg,hh,r⟩
 .exact .inl h2
 refine .inr ⟨g,cap,cur,hv,hg,?_,r⟩;have hlt:g<w.heap.size:=by
  rcases Nat.lt_or_ge g w.heap.size with h | h
  .exact h
  rw[Array.getElem?_eq_none h]at hh; simp at hh
 rw[hb.block g hlt]; exact hh
abbrev wpList_make_row{P:Program}{w:World}{ops:Array Oper}{rest:List Oper}{o:Oper}{a:Act}{Q:Exit->Act->World->Prop}
  (hg:o.guard=none) (l c:Operand) (t:TypeId) (hop:o.op=Op.makeSlice t l c)
  {e:TypeId} {z:Value} {bytes:Nat} (T:gu P t e z 1 bytes) (hz1:z.cells = #[z]) (base:Nat)
  {L:Int} (n:Nat) (hl:a.eval l = .i L) (hc:a.eval c = .i L) (hL:L=(n:Int)) (b2:bytes*n<=281474976710656) (b3:n<=maxLen) (b4:base<=w.heap.size)
  (hK:∀w',w'.ownsRow base e 1 (.slice (some ⟨w.heap.size,0,none⟩) n n) n (List.replicate n z)->w.grownBy w' none ->
   wpList P ops Q rest (a.put o.dst (.slice (some ⟨w.heap.size,0,none⟩) n n)) w') :
  wpList P ops Q (o::rest) a w:=by
 obtain⟨i,hi,hz,hsz,hby⟩:=T.info;subst hby
 refine wpList_make_full w hg l c t hop base e i z 1 T.und hi hz hsz .i64 .i64 L L n hl hc hL hL b2 b3 b4 λw' h1 h2=>hK w' ?_ h2;rw[hz1,Nat.mul_one,toList_madeCells_one]at h1;exact h1
abbrev fU{B:Nat}{a w w':World}(h:Below B a w)(hg:w.grownBy w' none)(hB:B<=w.heap.size):Below B a w':=h.grown hg hB (λ_ h=>by cases h)
abbrev Gl(n:Nat)(z x:α)(q:List α):(List.replicate (n+1) z++q).set n x=List.replicate n z++x::q:=by
 rw[List.replicate_succ',List.append_assoc,List.set_append];simp
abbrev y9{P:Program}{w:World}{ops:Array Oper}{rest:List Oper}{o:Oper}{a:Act}{Q:Exit->Act->World->Prop}
  (hgd:o.guard=none) (s x:Operand) (t:TypeId) (ho:o.op = .call { callee := .builtin .append,args := #[s,x],argTypes := #[t,t] })
  {e:TypeId} {z:Value} {size bytes:Nat} (T:gu P t e z size bytes)
  {ad:Option Addr} {n:Nat} {xs:List Value} (hv:dN w size (.slice ad n n) n xs) (hs:a.eval s = .slice ad n n)
  {b off cap m:Nat} {ys:List Value} (hy:dN w size (.slice (some ⟨b,off,none⟩) m cap) m ys) (hx:a.eval x = .slice (some ⟨b,off,none⟩) m cap) (hm:0<m)
  (h63:n+m<=maxLen) (hbytes:(n+m)*bytes<=140737488355328)
  (h:∀v' w',w'.ownsRow w.heap.size e size v' (n+m) (xs++ys)->Ext w w'->wpList P ops Q rest (a.put o.dst v') w'):wpList P ops Q (o::rest) a w:=by
 obtain⟨i,hi,hz',hsz,hby⟩:=T.info;obtain⟨hl2,h12,hy⟩:=hy;have hys:∀(j:Nat) u,ys[j]?=some u->w.cell? ((⟨b,off,none⟩:Addr).add j)=some u:=by
  intro j u hj;have e1:(⟨b,off,none⟩:Addr).add j=⟨b,off+j,none⟩:=by unfold Addr.add; split<;>simp_all
  rw[e1];rcases hy with ⟨h0,_⟩ | ⟨b',o',cap',hv',_,_,_,hc⟩
  .omega
  simp only[Value.slice.injEq,Option.some.injEq,Addr.mk.injEq,and_true]at hv';obtain⟨⟨rfl,rfl⟩,-,-⟩:=hv';exact hc j u hj
 obtain⟨hl1,h11,hv⟩:=hv;rcases hv with ⟨rfl,a0,c0,hv',hz⟩ | ⟨b0,o0,cap0,hv',hb0,hn0,hm0,hc0⟩
 .have hxs:xs=[]:=List.eq_nil_of_length_eq_zero (by simpa using hl1);subst hxs;refine wpList_append_grows w hgd s x t ho e i z size bytes T.und hi hz' hsz hby T.zc T.pos ad 0 0 [] hs (λ_=>⟨rfl,rfl⟩) (by simp) (by simp) ⟨b,off,none⟩ m cap ys hx hl2 hys h12 (by omega) h63 hbytes ?_;intro v' w' h1 h2;exact h v' w' (by simpa using h1) (fU (Below.refl _ _) h2 (Nat.le_refl _))
 simp only[Value.slice.injEq]at hv';obtain⟨rfl,-,rfl⟩:=hv';refine wpList_append_arg w hgd s x t ho e i z size bytes T.und hi hz' hsz hby T.zc T.pos b0 o0 n n xs hs hl1 hc0 ⟨b,off,none⟩ m cap ys hx hl2 hys h12 (λh=>by omega) h63 hbytes (λh=>by omega) ?_;intro _ v' w' h1 h2;exact h v' w' h1 (fU (Below.refl _ _) h2 (Nat.le_refl _))
abbrev qh{w:World}{base:Nat}{e:TypeId}{g n cap:Nat}{xs:List Value}(h:w.ownsRow base e 1 (.slice (some ⟨g,0,none⟩) n cap) n xs)(j:Nat)(hj:j<n) :
  (∃u,w.cell? ⟨g,j,none⟩=some u)∧w.frozen? ⟨g,j,none⟩=false:=by
 refine⟨⟨xs[j]'(by have:=h.1; omega),?_⟩,h.frozenAt j⟩;rw[h.cellAt j (by omega),List.getElem?_eq_getElem]
abbrev lJ(w:World)(x:Value)(e:TypeId)(h:x.oneCell'=true):dN (w.alloc (.cells #[x] e)) 1 (.slice (some ⟨w.heap.size,0,none⟩) 1 1) 1 [x]:=
 NH w #[x] e 1 1 rfl (by unfold maxLen; omega) (by intro u hu; simp at hu; rw[hu]; exact h)
abbrev jk{w:World}{base:Nat}{e:TypeId}{size:Nat}{v:Value}{n:Nat}{xs:List Value}(h:w.ownsRow base e size v n xs)(hn:0<n) :
  ∃g cap,v = .slice (some ⟨g,0,none⟩) n cap∧base<=g∧n<=cap∧cap<=maxLen:=by
 rcases h.2 with ⟨_,h0⟩ | ⟨g,cap,cur,hv,hg,_,hc,hm,_⟩
 .omega
 exact⟨g,cap,hv,hg,hc,hm⟩
open Go.RowKit
abbrev ajz(a b:UInt32):bits .xor .u32 (a.toNat:Int) (b.toNat:Int)=((a^^^b).toNat:Int):=by
 rw[u32_xor_nat _ _ a.toNat_lt b.toNat_lt,UInt32.toNat_xor]
abbrev ba32(a b:UInt32):bits .and .u32 (a.toNat:Int) (b.toNat:Int)=((a&&&b).toNat:Int):=by
 rw[u32_and_nat _ _ a.toNat_lt b.toNat_lt,UInt32.toNat_and]
abbrev apc(a b:UInt64):bits .xor .u64 (a.toNat:Int) (b.toNat:Int)=((a^^^b).toNat:Int):=by
 rw[u64_xor_nat _ _ a.toNat_lt b.toNat_lt,UInt64.toNat_xor]
abbrev aiV:IntKind.u32.max=4294967295:=by decide
abbrev aco(x:UInt32):(x.toNat:Int)/(2:Int)=((x>>>1).toNat:Int):=by
 rw[UInt32.toNat_shiftRight]; simp[Nat.shiftRight_eq_div_pow]
abbrev acp(x:UInt32):(x.toNat:Int)/(256:Int)=((x>>>8).toNat:Int):=by
 rw[UInt32.toNat_shiftRight]; simp[Nat.shiftRight_eq_div_pow]
abbrev ajA(c:UInt8):(c.toNat:Int)%(4294967296:Int)=(c.toUInt32.toNat:Int):=by
 have:=c.toNat_lt; simp; omega
abbrev wL(x:UInt32):(x.toNat:Int)%(256:Int)=(x.toUInt8.toNat:Int):=by simp
abbrev amP(a:UInt32):bits .xor .u32 (a.toNat:Int) 3988292384=((a^^^0xedb88320).toNat:Int):=by
 have:=ajz a 3988292384; simpa using this
abbrev acr(a:UInt32):bits .xor .u32 4294967295 (a.toNat:Int)=((a^^^0xffffffff).toNat:Int):=by
 have:=ajz 4294967295 a; rw[UInt32.xor_comm]; simpa using this
abbrev aiW(a:UInt32):bits .and .u32 (a.toNat:Int) 1=((a&&&1).toNat:Int):=by
 have:=ba32 a 1; simpa using this
abbrev agG(x:UInt64):IntKind.u64.wrap (x.toNat:Int)=(x.toNat:Int):=by
 have:=x.toNat_lt; rw[IntKind.wrap_u64]; omega
set_option linter.unusedVariables false
set_option linter.unusedSimpArgs false
open Go.RowKit
variable{α:Type}
abbrev Ch (b:Nat)(w w':World):Prop:=w.grownBy w' (some b)
abbrev Ch.refl(b:Nat)(w:World):Ch b w w:=⟨rfl,rfl,rfl,Nat.le_refl _,λ_ _ _=>rfl⟩
abbrev Ch.trans{b:Nat}{w w1 w2:World}(h:Ch b w w1)(k:Ch b w1 w2):Ch b w w2:=
 ⟨k.os.trans h.os,k.tape.trans h.tape,k.output.trans h.output,Nat.le_trans h.size k.size,λi hi hn=>(k.block i (Nat.lt_of_lt_of_le hi h.size) hn).trans (h.block i hi hn)⟩
abbrev Ch.bY{b:Nat}{w w':World}(h:Ext w w'):Ch b w w':=⟨h.os,h.tape,h.output,h.size,λi hi _=>h.block i hi⟩
abbrev Ch.drewN{b:Nat}{w w':World}(h:Ch b w w')(n:Nat):Ch b w (w'.drewN n):=Ch.trans h (Ch.bY (below_drewN (Below.refl _ _) n))
abbrev Ch.setCell{b:Nat}{w w':World}(h:Ch b w w')(o:Nat)(v:Value):Ch b w (w'.setCell ⟨b,o,none⟩ v):=
 Ch.trans h ⟨rfl,rfl,rfl,by simp[World.setCell],λk _ hk=>Below.heap_setCell _ _ _ _ (λe=>hk (by rw[e]))⟩
abbrev Ch.cell{b:Nat}{w w':World}(h:Ch b w w'){p:Addr}(hp:p.block<w.heap.size)(hb:p.block≠b):w'.cell? p=w.cell? p:=
 World.cell?_of_block (h.block _ hp (λe=>hb (by simpa using e)))
abbrev Ch.frozen{b:Nat}{w w':World}(h:Ch b w w'){p:Addr}(hp:p.block<w.heap.size)(hb:p.block≠b):w'.frozen? p=w.frozen? p:=
 World.frozen?_of_block (h.block _ hp (λe=>hb (by simpa using e)))
abbrev Ch.below{b B:Nat}{w w':World}(h:Ch b w w')(hb:B<=b)(hs:B<=w.heap.size):Below B w w':=⟨h.os,h.tape,h.output,h.size,λk hk=>h.block k (by omega) (λe=>by simp at e; omega)⟩
def Off(b:Nat)(v:Value):Prop:=∀ad n cap,v = .slice (some ad) n cap->ad.block≠b
abbrev dJ.ch{f:α->Value}{b:Nat}{w w':World}{v:Value}{l:List α}(h:dJ f w v l)(hc:Ch b w w')(ho:0<l.length->Off b v):dJ f w' v l:=by
 obtain⟨a,cap,rfl,hm,h⟩:=h;refine⟨a,cap,rfl,hm,?_⟩;rcases h with h | ⟨bb,o,rfl,hlt,hl,hcs⟩
 .exact .inl h
 exact .inr ⟨bb,o,rfl,by have:=hc.size; omega,hl,λi hi=>by rw[hc.cell (p:=⟨bb,o+i,none⟩) hlt (ho (by omega) ⟨bb,o,none⟩ _ _ rfl)]; exact hcs i hi⟩
abbrev agH{f:α->Value}{w:World}{v:Value}{l:List α}(h:dJ f w v l){b:Nat}(hb:w.heap.size<=b):0<l.length->Off b v:=by
 intro h0 ad n cap hv;obtain⟨bb,o,cap',hv',hlt,_⟩:=dH h rfl h0;rw[hv']at hv;simp only[Value.slice.injEq,Option.some.injEq]at hv;rw[<-hv.1]; simp only; omega
abbrev iW{w w1:World}{cs:Array Value}{t:TypeId}(hb:Ext (w.alloc (.cells cs t)) w1) :
  (∀i,w1.cell? ⟨w.heap.size,i,none⟩=cs[i]?)∧(∀i,w1.frozen? ⟨w.heap.size,i,none⟩=false)∧w.heap.size<w1.heap.size:=by
 refine⟨λi=>?_,λi=>?_,by have:=hb.size; simp at this; omega⟩
 .rw[hb.cell (p:=⟨w.heap.size,i,none⟩) (by simp),World.cell?_alloc_at _ _ _ _ rfl]
 rw[hb.frozen (p:=⟨w.heap.size,i,none⟩) (by simp),World.frozen?_alloc_at _ _ _ _ rfl]
def From(base:Nat)(v:Value):Prop:=∀ad n cap,v = .slice (some ad) n cap->base<=ad.block
abbrev From.mono{base base':Nat}{v:Value}(h:From base v)(hb:base'<=base):From base' v:=λad n cap e=>Nat.le_trans hb (h ad n cap e)
abbrev From.off{base b:Nat}{v:Value}(h:From base v)(hb:b<base):Off b v:=λad n cap e=>by have:=h ad n cap e; omega
abbrev QB{w:World}{base:Nat}{e:TypeId}{size:Nat}{v:Value}{n:Nat}{xs:List Value}(h:w.ownsRow base e size v n xs):From base v:=by
 intro ad n' cap hv;subst hv;exact(World.ownsRow.lt h ad.block rfl).1
abbrev acs{w w':World}{base b:Nat}{e:TypeId}{size:Nat}{v:Value}{n:Nat}{xs:List Value}(h:w.ownsRow base e size v n xs)(hc:Ch b w w')(hb:b<base):w'.ownsRow base e size v n xs:=by
 refine h.kept hc ?_;have hlt:=h.lt;cases hv:v.ownBlock with
 | none=>exact .inl rfl
 | some k =>
  right;intro e';have h1:=(hlt k hv).1;simp only[Option.some.injEq]at e';omega
abbrev QC(base:Nat):From base (.sn):=λ_ _ _ e=>by simp at e
open Go.RowKit
variable{α:Type}
abbrev QD{Q:Nat->α->Prop}(n:Nat)(h:∀i,i<n->∃y,Q i y):∃l:List α,l.length=n∧∀i (h:i<l.length),Q i l[i]:=by
 induction n with
 | zero=>exact⟨[],rfl,λi h=>absurd h (by simp)⟩
 | succ n ih =>
  obtain⟨l,hl,hq⟩:=ih λi hi=>h i (by omega);obtain⟨y,hy⟩:=h n (by omega);refine⟨l++[y],by simp[hl],λi hi=>?_⟩;rcases Nat.lt_or_ge i l.length with h1 | h1
  .rw[List.getElem_append_left h1]; exact hq i h1
  obtain rfl:i=n:=by simp at hi; omega
  rw[List.getElem_append_right h1]; simpa[hl]using hy
section
variable{H:Type}{enc:TypeId×Value->H}{P:Program}{w:World}{sp:Nat->Bool}{held:Bool}
abbrev cell_lt{a:Addr}{x:Value}(h:w.cell? a=some x):a.block<w.heap.size:=by
 unfold World.cell? at h;rcases Nat.lt_or_ge a.block w.heap.size with h' | h'
 .exact h'
 rw[Array.getElem?_eq_none h']at h; simp at h
abbrev cell_spot{a:Addr}{x:Value}(h:w.cell? a=some x):a.spot=none:=by
 unfold World.cell? at h;split at h
 .cases e:a.spot
  .rfl
  simp[e]at h
 simp at h
abbrev acu{a:Addr}(h:a.spot=none)(n:Nat):a.add n=⟨a.block,a.off+n,none⟩:=by
 obtain⟨b,o,s⟩:=a;simp at h;subst h;unfold Addr.add;split<;>simp_all
abbrev ajB{n:Int}(h:(Lit.int .u8 n).wf=true):∃c:UInt8,Value.int .u8 n=iO c:=by
 have hb:=bounds_u8 h;exact⟨UInt8.ofNat n.toNat,by congr 1; simp; omega⟩
abbrev agI{n:Int}(h:(Lit.int .u32 n).wf=true):∃c:UInt32,Value.int .u32 n=aU c:=by
 have hb:=bounds_u32 h;exact⟨UInt32.ofNat n.toNat,by congr 1; simp; omega⟩
end
end Go.Proofs.Pv
namespace Go.Rel
section
variable{P:Program}{md:Region.Mode}
def Upon(P:Program)(K:Value->World->Prop):Result Next->Prop
 | .ok (.value u) w'=>K u w'
 | .ok .skip w'=>K undef w'
 | .ok (.enter f args) w'=>Calls P f args w' (λe w''=>∃v,e = .returned v∧K v w'')
 | _=>False
def Does(P:Program)(o:Oper)(ρ:Operand->Value)(w:World)(K:Value->World->Prop):Prop:=Upon P K ((execOp ρ o).run P w)
abbrev Ae{o:Oper}{a:Act}{w:World}{K:Value->World->Prop}{next:Act->World->Prop}{Q:Exit->Act->World->Prop}
  (h:Does P o a.eval w K) (hn:∀v w',K v w'->next (a.put o.dst v) w'):o.wp P a w next Q:=by
 unfold Does at h;unfold Oper.wp;generalize (execOp a.eval o).run P w=r at *;cases r with
 | ok n w' =>
  cases n<;>simp only[Upon]at h<;>simp only[Oper.upon];case value u=>exact hn _ _ h
  case skip=>exact hn _ _ h
  case enter f args=>exact h.mono λe w'' ⟨v,he,hk⟩=>by subst he; exact hn _ _ hk
 | halt x w'=>simp only[Upon]at h
def valOf(ρ:Operand->Value):Option Tmp->Value
 | none=>undef
 | some d=>ρ (.tmp d)
def kept(o:Oper)(v:Value):Value:=match o.dst with | none=>undef | some _=>v
abbrev Fact:=Value->World->Prop
def top:Fact:=λ_ _=>True
def QE(ops:Array Oper)(Ts:List Fact)(ρ:Operand->Value)(w:World):List Edge->Prop
 | []=>True
 | e::es=>(Region.binds .any e=true->Ts.getD e.on top (valOf ρ ((ops[e.on]?).bind (·.dst))) w)∧QE ops Ts ρ w es
abbrev agJ{ops:Array Oper}{Ts:List Fact}{ρ:Operand->Value}{w:World}(es:List Edge)(h:∀e∈es,Region.binds .any e=true->Ts.getD e.on top (valOf ρ ((ops[e.on]?).bind (·.dst))) w):QE ops Ts ρ w es:=by
 induction es with
 | nil=>trivial
 | cons e es ih=>exact⟨h e (by simp),ih λe' he'=>h e' (by simp[he'])⟩
structure Std (ρ:Operand->Value):Prop where
 const:∀v,ρ (.const v)=v
 global:∀g,ρ (.global g) = .q g 0
 func:∀f,ρ (.func f) = .func (.func f) #[] #[]
abbrev Std.act(a:Act):Std a.eval:=⟨λ_=>rfl,λ_=>rfl,λ_=>rfl⟩
def Out(head:List Oper)(ρ DN:Operand->Value):Prop:=∀t,head.all (λo => !(o.dst==some t))=true->ρ (.tmp t)=DN (.tmp t)
def tK(P:Program)(ops:Array Oper)(head:List Oper)(Ts:List Fact)(R:World->World->Prop)(C:World->Prop)(DN:Operand->Value)(o:Oper)(T:Fact):Prop:=
 ∀ρ w,Std ρ->Out head ρ DN->C w->QE ops Ts ρ w o.after.toList ->
  match o.guard with
  | none=>Does P o ρ w (λv w'=>R w w'∧T (kept o v) w')
  | some (g,b)=>(valOf ρ ((ops[g]?).bind (·.dst)) = .bool b->Does P o ρ w (λv w'=>R w w'∧T (kept o v) w'))∧(valOf ρ ((ops[g]?).bind (·.dst)) ≠ .bool b->T undef w)
def qL(P:Program)(ops:Array Oper)(head:List Oper)(Ts:List Fact)(R:World->World->Prop)(C:World->Prop)(DN:Operand->Value):List Oper->List Fact->Prop
 | [],_=>True
 | _::_,[]=>False
 | o::os,T::Us=>tK P ops head Ts R C DN o T∧qL P ops head Ts R C DN os Us
def End(K:Act->Prop)(w:World):List Oper->List Fact->Act->Prop
 | o::os,T::Us,a=>∀v,T v w->End K w os Us (a.put o.dst v)
 | _,_,a=>K a
theorem kQ{ops:Array Oper}{head:List Oper}{Ts:List Fact}{R:World->World->Prop}{C:World->Prop}{DN:Operand->Value} :
  ∀(os:List Oper) (Us:List Fact),qL P ops head Ts R C DN os Us->os.length<=Us.length∧∀(i:Nat) o,os[i]?=some o->tK P ops head Ts R C DN o (Us.getD i top)
 | [],_,_=>⟨by simp,λi o h=>by simp at h⟩
 | _::_,[],h=>h.elim
 | o::os,T::Us,h=>by
  obtain⟨h1,h2⟩:=kQ os Us h.2
  refine⟨by simp; omega,λi o' hi=>?_⟩
  cases i with
  | zero=>simp only[List.getElem?_cons_zero,Option.some.injEq]at hi; subst hi; exact h.1
  | succ i=>exact h2 i o' (by simpa using hi)
def okB(ops:Array Oper)(n:Nat)(sz:Nat):Bool:=
 decide (n<=ops.size) &&
 ((List.range n).all λi=>match ops[i]? with | some o=>o.after.toList.all (λe => !Region.binds .any e||decide (e.on<i)) | none=>false) &&
 ((List.range n).all λi=>(List.range n).all λj=>i==j||(match (ops[i]?).bind (·.dst),(ops[j]?).bind (·.dst)with | some d,some e=>d != e | _,_=>true)) &&
 ((List.range n).all λi=>match (ops[i]?).bind (·.dst)with | some d=>decide (d<sz) | none=>true) &&
 (n==ops.size||(Region.sinkB .any ops n&&Region.chainB .any ops n)) &&
 Region.seqB .any ops (ops.size-n) n (List.replicate n true++List.replicate (ops.size-n) false).toArray
variable{ops:Array Oper}{Ts:List Fact}{C:World->Prop}{a0:Act}{n:Nat}
def Old(u:Value)(w:World):Prop:=∃b,u = .q b 0∧b<w.heap.size
abbrev acv{u:Value}{w:World}(h:Old u w):u ≠ .q w.heap.size 0:=by
 obtain⟨b,rfl,hb⟩:=h;intro e;simp only[Value.pointer.injEq,Option.some.injEq,Addr.mk.injEq,and_true]at e;omega
def Als(ops:Array Oper)(Ts:List Fact)(A:List Nat):Prop:=∀i∈A,(∀o,ops[i]?=some o->∃t d,o.op = .alloc t∧o.dst=some d∧o.guard=none)∧∀u w,Ts.getD i top u w->Old u w
def G9(k:Nat)(C U:World->Prop)(i:Nat)(w:World):Prop:=C w∧(i=k->U w)
abbrev tK.cls{head:List Oper}{R:World->World->Prop}{D:World->Prop}{DN:Operand->Value}{o:Oper}{T:Fact}(h:tK P ops head Ts R C DN o T)(hc:∀w,D w->C w):tK P ops head Ts R D DN o T:=λρ w a b c d=>h ρ w a b (hc w c) d
structure Inv (ops:Array Oper) (Ts:List Fact) (C:World->Prop) (a0:Act) (n:Nat) (A:List Nat) (k:Nat) (U:World->Prop) (listed:Array Bool) (a:Act) (w:World):Prop where
 defers:a.defers=a0.defers
 size:a.tmps.size=a0.tmps.size
 out:∀t,(∀j o,j<n->ops[j]?=some o->o.dst≠some t)->a.tmps[t]?=a0.tmps[t]?
 fact:∀j o,j<n->ops[j]?=some o->listed.getD j false=true->Ts.getD j top (valOf a.eval o.dst) w
 cls:C w
 apart:∀i∈A,∀j∈A,i≠j->i<n->j<n->∀o1 o2,ops[i]?=some o1->ops[j]?=some o2->listed.getD i false=true->listed.getD j false=true->valOf a.eval o1.dst≠valOf a.eval o2.dst
 unt:listed.getD k false=false->U w
abbrev tN(a:Act)(d:Option Tmp)(v:Value):(a.put d v).tmps.size=a.tmps.size:=by cases d<;>simp[Act.put]
abbrev put_defers(a:Act)(d:Option Tmp)(v:Value):(a.put d v).defers=a.defers:=by cases d<;>rfl
abbrev oM(a:Act)(d:Option Tmp)(v:Value)(t:Tmp)(h:d≠some t):(a.put d v).tmps[t]?=a.tmps[t]?:=by
 cases d with
 | none=>rfl
 | some e =>
  have:e≠t:=λh'=>h (by rw[h']);simp[Act.put,Array.getElem?_setIfInBounds_ne this]
abbrev kR{a b:Act}{t:Tmp}(h:a.tmps[t]?=b.tmps[t]?):a.eval (.tmp t)=b.eval (.tmp t):=by
 simp only[Act.eval,Array.getD_eq_getD_getElem?,h]
abbrev NJ(a:Act)(d e:Option Tmp)(v:Value)(h:∀x y,d=some x->e=some y->x≠y):valOf (a.put d v).eval e=valOf a.eval e:=by
 cases e with
 | none=>rfl
 | some y =>
  apply kR;apply oM;intro hd;exact h y y hd rfl rfl
abbrev He(a:Act)(o:Oper)(v:Value)(h:∀d,o.dst=some d->d<a.tmps.size):valOf (a.put o.dst v).eval o.dst=kept o v:=by
 unfold kept;cases hd:o.dst with
 | none=>rfl
 | some d =>
  have:=h d hd;simp[valOf,Act.eval,Act.put,this]
abbrev Af{ops:Array Oper}{a:Act}{o:Oper}{g:Nat}{b:Bool}(hg:o.guard=some (g,b)) :
  Region.wanted o (yielded ops a.tmps)=true↔valOf a.eval ((ops[g]?).bind (·.dst)) = .bool b:=by
 unfold Region.wanted yielded;rw[hg];simp only[beq_iff_eq];cases hd:(ops[g]?).bind (·.dst)with
 | none=>simp[valOf,undef]
 | some d =>
  simp only[Option.bind_some,valOf,Act.eval,Array.getD_eq_getD_getElem?];cases hv:a.tmps[d]? with
  | none=>simp[undef]
  | some v =>
   simp only[Option.getD_some];cases v<;>simp
structure Ok (ops:Array Oper) (n sz:Nat):Prop where
 le:n<=ops.size
 back:∀i o,i<n->ops[i]?=some o->∀e∈o.after,Region.binds .any e=true->e.on<i
 apart:∀i j,i<n->j<n->i≠j->∀d e,(ops[i]?).bind (·.dst)=some d->(ops[j]?).bind (·.dst)=some e->d≠e
 fits:∀i d,i<n->(ops[i]?).bind (·.dst)=some d->d<sz
 tail:n=ops.size∨(Region.sinkB .any ops n=true∧Region.chainB .any ops n=true)
 seq:Region.seqB .any ops (ops.size-n) n (List.replicate n true++List.replicate (ops.size-n) false).toArray=true
abbrev acw{sz:Nat}(h:okB ops n sz=true):Ok ops n sz:=by
 simp only[okB,Bool.and_eq_true,decide_eq_true_eq,List.all_eq_true,List.mem_range,Bool.or_eq_true,beq_iff_eq]at h;obtain⟨⟨⟨⟨⟨h1,h2⟩,h3⟩,h4⟩,h5⟩,h6⟩:=h;refine⟨h1,λi o hi ho e he hb=>?_,λi j hi hj hij d e hd he=>?_,λi d hi hd=>?_,h5,h6⟩
 .have:=h2 i hi;rw[ho]at this;simp only[List.all_eq_true,Bool.or_eq_true,Bool.not_eq_true',decide_eq_true_eq]at this;rcases this e (by simpa using he)with h | h
  .rw[hb]at h; cases h
  exact h
 .rcases h3 i hi j hj with h | h
  .exact absurd h hij
  rw[hd,he]at h;simpa using h
 have:=h4 i hi;rw[hd]at this;simpa using this
abbrev U4{o:Oper}{ρ:Operand->Value}{w:World}{K:Value->World->Prop}{t:TypeId}(ho:o.op = .alloc t)(h:Does P o ρ w K):Does P o ρ w (λv w'=>K v w'∧v = .q w.heap.size 0):=by
 unfold Does at *;have e:(execOp ρ o).run P w=((Instr.alloc t true (.tuple #[])).run P w).andThen (λv w' => .ok (.value v) w'):=by
  unfold execOp;rw[ho];simp only[Sem.run_bind];rfl
 rw[e]at h |-;unfold Instr.alloc at *;simp only[Sem.run_bind]at *;cases hz:(zeroValue t).run P w with
 | ok z w1 =>
  obtain rfl:=Go.MapKept.run_zeroValue_world hz;rw[hz]at h;simp[go_sem,Result.andThen,Upon]at h |-;exact h
 | halt x w1=>rw[hz]at h; exact h.elim
abbrev Inv.step{sz k:Nat}{A:List Nat}{U:World->Prop}{R:Nat->World->World->Prop}(ok:Ok ops n sz)(hsz:a0.tmps.size=sz)(hm:∀(j:Nat) T,Ts[j]?=some T->∀i,i≠j->∀v w w',R i w w'->T v w->T v w')(hC:∀i w w',C w->R i w w'->C w')(hU:∀i w w',i≠k->U w->R i w w'->U w')(hA:Als ops Ts A)
  {listed:Array Bool} {a:Act} {w w':World} (hl0:listed.size=ops.size) (inv:Inv ops Ts C a0 n A k U listed a w) {i:Nat} {o:Oper} (hi:i<n) (ho:ops[i]?=some o) {v:Value} (hR:w'=w∨R i w w')
  (hT:Ts.getD i top (kept o v) w') (hF:i∈A->kept o v = .q w.heap.size 0):Inv ops Ts C a0 n A k U (listed.setIfInBounds i true) (a.put o.dst v) w':=by
 have same:=He a o v (λd hd=>by rw[inv.size,hsz]; exact ok.fits i d hi (by rw[ho]; exact hd));have other:∀j oj,j<n->ops[j]?=some oj->i≠j->valOf (a.put o.dst v).eval oj.dst=valOf a.eval oj.dst:=λj oj hj hoj hij =>
  NJ a o.dst oj.dst v (λx y hx hy=>ok.apart i j hi hj hij x y (by rw[ho]; exact hx) (by rw[hoj]; exact hy))
 refine⟨by rw[put_defers]; exact inv.defers,by rw[tN]; exact inv.size,λt ht=>?_,λj oj hj hoj hl=>?_,?_,λi1 m1 i2 m2 hne k1 k2 o1 o2 h1 h2 l1 l2=>?_,λhl=>?_⟩
 .rw[oM _ _ _ _ (ht i o hi ho)]; exact inv.out t ht
 .by_cases hij:i=j
  .subst hij;obtain rfl:o=oj:=Option.some.inj (ho.symm.trans hoj);rw[same]; exact hT
  rw[getD_set_ne false hij]at hl;have h1:=inv.fact j oj hj hoj hl;rw[other j oj hj hoj hij];rcases hR with rfl | hR
  .exact h1
  by_cases hjl:j<Ts.length
  .have e:Ts.getD j top=Ts[j]:=by simp[List.getD,List.getElem?_eq_getElem hjl]
   rw[e]at h1 |-;exact hm j _ (List.getElem?_eq_getElem hjl) i hij _ _ _ hR h1
  have e:Ts.getD j top=top:=by simp[List.getD,List.getElem?_eq_none (Nat.le_of_not_lt hjl)]
  rw[e]; trivial
 .rcases hR with rfl | hR
  .exact inv.cls
  exact hC i _ _ inv.cls hR
 .by_cases e1:i=i1
  .subst e1;obtain rfl:o=o1:=Option.some.inj (ho.symm.trans h1);rw[same,other i2 o2 k2 h2 hne,hF m1];rw[getD_set_ne false hne]at l2;exact(acv ((hA i2 m2).2 _ _ (inv.fact i2 o2 k2 h2 l2))).symm
  rw[other i1 o1 k1 h1 e1];rw[getD_set_ne false e1]at l1;by_cases e2:i=i2
  .subst e2;obtain rfl:o=o2:=Option.some.inj (ho.symm.trans h2);rw[same,hF m2];exact acv ((hA i1 m1).2 _ _ (inv.fact i1 o1 k1 h1 l1))
  rw[other i2 o2 k2 h2 e2];rw[getD_set_ne false e2]at l2;exact inv.apart i1 m1 i2 m2 hne k1 k2 o1 o2 h1 h2 l1 l2
 by_cases hik:i=k
 .subst hik;have hlt:i<listed.size:=by rw[hl0]; exact(Array.getElem?_eq_some_iff.1 ho).1
  simp[hlt]at hl
 rw[getD_set_ne false hik]at hl;rcases hR with rfl | hR
 .exact inv.unt hl
 exact hU i _ _ hik (inv.unt hl) hR
def Hf(n:Nat)(listed:Array Bool):List Nat:=(List.range n).filter λj => !listed.getD j true
abbrev agK{n i:Nat}{listed:Array Bool}(hi:i∈Hf n listed):(Hf n (listed.setIfInBounds i true)).length+1=(Hf n listed).length:=by
 have hnd:(Hf n listed).Nodup:=List.Nodup.sublist List.filter_sublist List.nodup_range;have e:Hf n (listed.setIfInBounds i true)=(Hf n listed).erase i:=by
  rw[hnd.erase_eq_filter];unfold Hf;rw[List.filter_filter];apply List.filter_congr;intro j hj;by_cases hij:i=j
  .subst hij;have hm:=(List.mem_filter.1 hi).2;simp only[bne_self_eq_false,Bool.false_and];have hlt:i<listed.size:=by
    rcases Nat.lt_or_ge i listed.size with h | h
    .exact h
    simp[Array.getElem?_eq_none h]at hm
   simp[hlt]
  rw[getD_set_ne true hij];have:(j != i)=true:=by simp; exact λh=>hij h.symm
  rw[this]; simp
 rw[e,List.length_erase_of_mem hi];have:0<(Hf n listed).length:=List.length_pos_of_mem hi;omega
abbrev yE{n i:Nat}{listed:Array Bool}:i∈Hf n listed↔i<n∧listed.getD i true=false:=by
 unfold Hf; rw[List.mem_filter,List.mem_range]; simp
abbrev QF{sz:Nat}(ok:Ok ops n sz){listed:Array Bool}(inv:HeadInv .any ops n listed)(h:Hf n listed≠[]):∃i,i∈Region.ready .any ops listed:=by
 have key:∀m,(∃i,i∈Hf n listed∧i<=m)->∃i,i∈Region.ready .any ops listed:=by
  intro m;induction m with
  | zero =>
   rintro⟨i,hi,h0⟩;obtain rfl:i=0:=by omega
   obtain⟨h1,h2⟩:=yE.1 hi;have hlt:0<ops.size:=by have:=ok.le; omega
   have ho:ops[0]?=some ops[0]:=by simp[hlt]
   refine⟨0,mem_ready.2 ⟨h2,_,ho,λe he hb=>?_⟩⟩;exact absurd (ok.back 0 _ h1 ho e he hb) (by omega)
  | succ m ih =>
   rintro⟨i,hi,h0⟩;by_cases hex:∃i,i∈Hf n listed∧i<=m
   .exact ih hex
   obtain⟨h1,h2⟩:=yE.1 hi;have hlt:i<ops.size:=by have:=ok.le; omega
   have ho:ops[i]?=some ops[i]:=by simp[hlt]
   refine⟨i,mem_ready.2 ⟨h2,_,ho,λe he hb=>?_⟩⟩;have hlt2:=ok.back i _ h1 ho e he hb;cases hl:listed.getD e.on true with
   | false=>exact absurd ⟨e.on,yE.2 ⟨by omega,hl⟩,by omega⟩ hex
   | true =>
    have hs:e.on<listed.size:=by rw[inv.size]; omega
    simp[hs]at hl |-; exact hl
 cases hu:Hf n listed with
 | nil=>exact absurd hu h
 | cons i _=>exact key i ⟨i,by simp[hu],Nat.le_refl _⟩
abbrev agL{listed:Array Bool}(hn:n<=ops.size)(inv:HeadInv .any ops n listed)(h:Hf n listed=[]) :
  listed=(List.replicate n true++List.replicate (ops.size-n) false).toArray:=by
 apply Array.ext
 .rw[inv.size]; simp; omega
 intro j h1 h2;have hj:j<ops.size:=by rw[<-inv.size]; exact h1
 simp only[List.getElem_toArray,List.getElem_append,List.getElem_replicate,List.length_replicate];split
 .rename_i hjn;cases hl:listed[j]with
  | true=>rfl
  | false =>
   have:j∈Hf n listed:=yE.2 ⟨hjn,by simp[h1,hl]⟩;rw[h]at this; cases this
 rename_i hjn;have:=inv.tail j (by omega) hj;simpa[h1]using this
theorem BI{sz k:Nat}{A:List Nat}{U:World->Prop}{R:Nat->World->World->Prop}{Q:Exit->Act->World->Prop}(ok:Ok ops n sz)(hsz:a0.tmps.size=sz)(hm:∀(j:Nat) T,Ts[j]?=some T->∀i,i≠j->∀v w w',R i w w'->T v w->T v w')(hC:∀i w w',C w->R i w w'->C w')(hU:∀i w w',i≠k->U w->R i w w'->U w')(hA:Als ops Ts A)
  (hob:∀(i:Nat) o,i<n->ops[i]?=some o->tK P ops (ops.toList.take n) Ts (R i) (G9 k C U i) a0.eval o (Ts.getD i top)) (g:Nat) (hg:g=ops.size-n)
  (hend:∀a w,Inv ops Ts C a0 n A k U (List.replicate n true++List.replicate (ops.size-n) false).toArray a w->wpList P ops Q (ops.toList.drop n) a w) :
  ∀(f:Nat) (listed:Array Bool) (a:Act) (w:World),(Hf n listed).length=f->HeadInv .any ops n listed->Inv ops Ts C a0 n A k U listed a w->wpAny P .any ops Q (f+g) listed a w
 | 0,listed,a,w,hu,hh,inv=>by
  rw[Nat.zero_add]
  have hu':Hf n listed=[]:=List.eq_nil_of_length_eq_zero hu
  have hl:=agL ok.le hh hu'
  subst hl
  have hlen:(ops.toList.drop n).length=g:=by simp[hg]
  rw[<-hlen]
  exact wpAny_of_seq (md := .any) (Q':=Q) (ops.toList.drop n) n _ a w (λj=>by simp[List.getElem?_drop]) (by rw[hlen,hg]; exact ok.seq) (hend a w inv)
 | f+1,listed,a,w,hu,hh,inv=>by
  rw[show f+1+g=(f+g)+1 by omega]
  have hne:Hf n listed≠[]:=λh=>by rw[h]at hu; simp at hu
  obtain⟨i0,hi0⟩:=QF ok hh hne
  refine⟨λh0=>(by rw[h0]at hi0; cases hi0),λi hi=>?_⟩
  have hin:i<n:=by
   rcases Nat.lt_or_ge i n with h | h
   .exact h
   .rcases ok.tail with ht | ⟨hs,hc⟩
    .obtain⟨_,o,ho,_⟩:=mem_ready.1 hi
     have:=(Array.getElem?_eq_some_iff.1 ho).1
     omega
    .obtain⟨j,hj⟩:=List.exists_mem_of_ne_nil _ hne
     obtain⟨hjn,hjl⟩:=yE.1 hj
     have hns:n<ops.size:=by
      obtain⟨_,o,ho,_⟩:=mem_ready.1 hi
      have:=(Array.getElem?_eq_some_iff.1 ho).1
      omega
     exact absurd hi (tail_waits hs hc hns hh _ j rfl hjn hjl i h)
  obtain⟨hun,o,ho,hall⟩:=mem_ready.1 hi
  have hmem:i∈Hf n listed:=yE.2 ⟨hin,hun⟩
  have hcnt:=agK hmem
  have hOut:Out (ops.toList.take n) a.eval a0.eval:=by
   intro t ht
   apply kR
   apply inv.out
   intro j oj hj hoj hd
   rw[List.all_eq_true]at ht
   have hmem:oj∈ops.toList.take n:=by
    rw[List.mem_take_iff_getElem]
    have:=(Array.getElem?_eq_some_iff.1 hoj)
    obtain⟨h1,h2⟩:=this
    exact⟨j,by simp; omega,by simpa using h2⟩
   have:=ht oj hmem
   simp[hd]at this
  have Yd:QE ops Ts a.eval w o.after.toList:=by
   apply agJ
   intro e he hb
   have he':e∈o.after:=by simpa using he
   have hlt:=ok.back i o hin ho e he' hb
   have hl:=hall e he' hb
   have hlt2:e.on<ops.size:=by have:=ok.le; omega
   have ho2:ops[e.on]?=some ops[e.on]:=by simp[hlt2]
   have:=inv.fact e.on _ (by omega) ho2 hl
   rw[ho2]
   exact this
  have hO:=hob i o hin ho a.eval w (Std.act a) hOut ⟨inv.cls,λe=>inv.unt (by rw[<-e]; exact getD_both hun)⟩ Yd
  have next:∀v w',(w'=w∨R i w w')->Ts.getD i top (kept o v) w'->(i∈A->kept o v = .q w.heap.size 0)->wpAny P .any ops Q (f+g) (listed.setIfInBounds i true) (a.put o.dst v) w':=λv w' hR hT hF =>
   BI ok hsz hm hC hU hA hob g hg hend f _ _ _ (by omega) (hh.set hi hin) (inv.step ok hsz hm hC hU hA hh.size hin ho hR hT hF)
  unfold wpOp
  rw[ho]
  simp only
  cases hgd:o.guard with
  | none =>
   have hw:Region.wanted o (yielded ops a.tmps)=true:=by unfold Region.wanted; rw[hgd]
   rw[hgd]at hO
   simp only at hO
   rw[if_pos hw]
   by_cases hij:i∈A
   .obtain⟨t,d,hop,hd,_⟩:=(hA i hij).1 o ho
    exact .inl (Ae (U4 hop hO) λv w' hk=>next v w' (.inr hk.1.1) hk.1.2 (λ_=>by unfold kept; rw[hd]; exact hk.2))
   .exact .inl (Ae hO λv w' hk=>next v w' (.inr hk.1) hk.2 (λh=>absurd h hij))
  | some gb =>
   have hij:i∉A:=by
    intro hij
    obtain⟨t,d,hop,hd,hgn⟩:=(hA i hij).1 o ho
    rw[hgn]at hgd; cases hgd
   obtain⟨gi,b⟩:=gb
   rw[hgd]at hO
   simp only at hO
   by_cases hw:Region.wanted o (yielded ops a.tmps)=true
   .rw[if_pos hw]
    exact .inl (Ae (hO.1 ((Af hgd).1 hw)) λv w' hk=>next v w' (.inr hk.1) hk.2 (λh=>absurd h hij))
   .rw[if_neg hw]
    have hT:=hO.2 (λh=>hw ((Af hgd).2 h))
    refine next undef w (.inl rfl) ?_ (λh=>absurd h hij)
    unfold kept
    cases o.dst<;>exact hT
theorem LC{K:Act->Prop}{w:World}{ρ:Operand->Value}:∀(os:List Oper) (Us:List Fact) (b:Act),os.length<=Us.length->End K w os Us b->(∀(j:Nat) o,os[j]?=some o->Us.getD j top (valOf ρ o.dst) w) ->
  K (os.foldl (λa o=>a.put o.dst (valOf ρ o.dst)) b)
 | [],Us,b,_,h,_=>by cases Us<;>exact h
 | _::_,[],_,hl,_,_=>by simp at hl
 | o::os,T::Us,b,hl,h,hf=>by
  refine LC os Us _ (by simpa using hl) (h _ (hf 0 o rfl)) λj o' hj=>?_
  exact hf (j+1) o' (by simpa using hj)
theorem QG(a:Act):∀(os:List Oper) (b:Act),b.tmps.size=a.tmps.size->(∀o∈os,∀d,o.dst=some d->d<a.tmps.size) ->
  (os.foldl (λc o=>c.put o.dst (valOf a.eval o.dst)) b).defers=b.defers∧(os.foldl (λc o=>c.put o.dst (valOf a.eval o.dst)) b).tmps.size=a.tmps.size ∧
  ∀t,(os.foldl (λc o=>c.put o.dst (valOf a.eval o.dst)) b).tmps[t]?=if (∃o∈os,o.dst=some t)then a.tmps[t]? else b.tmps[t]?
 | [],b,hs,_=>⟨rfl,hs,λt=>by simp⟩
 | o::os,b,hs,hd=>by
  obtain⟨h1,h2,h3⟩:=QG a os (b.put o.dst (valOf a.eval o.dst)) (by rw[tN]; exact hs) (λo' ho'=>hd o' (by simp[ho']))
  refine⟨by simp only[List.foldl_cons]; rw[h1,put_defers],by simpa using h2,λt=>?_⟩
  simp only[List.foldl_cons]
  rw[h3 t]
  by_cases he:∃o'∈os,o'.dst=some t
  .rw[if_pos he]
   obtain⟨o',ho',hd'⟩:=he
   rw[if_pos ⟨o',by simp[ho'],hd'⟩]
  .rw[if_neg he]
   by_cases ho:o.dst=some t
   .rw[if_pos ⟨o,by simp,ho⟩,ho]
    have hlt:t<a.tmps.size:=hd o (by simp) t ho
    have hlt':t<b.tmps.size:=hs▸hlt
    simp[Act.put,valOf,Act.eval,hlt',hlt]
   .rw[if_neg,oM _ _ _ _ ho]
    rintro⟨o',ho',hd'⟩
    rcases List.mem_cons.1 ho' with rfl | h
    .exact ho hd'
    .exact he ⟨o',h,hd'⟩
abbrev agM{l:List Oper}{a a':Act}{w:World}{K:Act->Prop}(ok:Ok l.toArray n a.tmps.size)(hlen:(l.take n).length<=Ts.length)(h:End K w (l.take n) Ts a)(hd:a'.defers=a.defers)(hs:a'.tmps.size=a.tmps.size)
  (hf:∀(j:Nat) o,(l.take n)[j]?=some o->Ts.getD j top (valOf a'.eval o.dst) w) (ho:∀t,(∀j o,j<n->l.toArray[j]?=some o->o.dst≠some t)->a'.tmps[t]?=a.tmps[t]?):K a':=by
 have hK:=LC (l.take n) Ts a hlen h hf;have hfit:∀o∈l.take n,∀d,o.dst=some d->d<a'.tmps.size:=by
  intro o ho d hd;rw[hs];obtain⟨j,hj⟩:=List.getElem?_of_mem ho;have hjn:j<n:=by
   have:=(List.getElem?_eq_some_iff.1 hj).1;simp at this; omega
  have ho':l.toArray[j]?=some o:=by rw[List.getElem?_take_of_lt hjn]at hj; simpa using hj
  exact ok.fits j d hjn (by rw[ho']; exact hd)
 obtain⟨f1,f2,f3⟩:=QG a' (l.take n) a hs.symm hfit;have hfold:(l.take n).foldl (λc o=>c.put o.dst (valOf a'.eval o.dst)) a=a':=by
  generalize (l.take n).foldl (λc o=>c.put o.dst (valOf a'.eval o.dst)) a=b at f1 f2 f3;obtain⟨bt,bd⟩:=b;obtain⟨at',ad⟩:=a';simp only at f1 f2 f3 hd;have e1:bt=at':=by
   apply Array.ext_getElem?;intro t;rw[f3 t];split
   .rfl
   rename_i hne;refine(ho t λj o hj ho hd=>hne ⟨o,?_,hd⟩).symm;rw[List.mem_iff_getElem?];exact⟨j,by rw[List.getElem?_take_of_lt hj]; simpa using ho⟩
  rw[e1,f1,hd]
 rw[hfold]at hK;exact hK
abbrev Hg{Q:Exit->Act->World->Prop}{a:Act}{w:World}{l:List Oper}(n:Nat)(hB:okB l.toArray n a.tmps.size=true)
  (R:Nat->World->World->Prop) (C:World->Prop) (A:List Nat) (k:Nat) (U:World->Prop) (Ts:List Fact) (hA:Als l.toArray Ts A) (hC0:C { w with drawn:=w.drawn+1 }) (hU0:U { w with drawn:=w.drawn+1 }) (hC:∀i w w',C w->R i w w'->C w') (hU:∀i w w',i≠k->U w->R i w w'->U w') (hm:∀(j:Nat) T,Ts[j]?=some T->∀i,i≠j->∀v w w',R i w w'->T v w->T v w')
  (hob:∀(i:Nat) o,i<n->l[i]?=some o->tK P l.toArray (l.take n) Ts (R i) (G9 k C U i) a.eval o (Ts.getD i top))
  (hend:∀a' w',C w'->a'.defers=a.defers->a'.tmps.size=a.tmps.size->(∀(j:Nat) o,(l.take n)[j]?=some o->Ts.getD j top (valOf a'.eval o.dst) w')->(∀t,(∀j o,j<n->l.toArray[j]?=some o->o.dst≠some t)->a'.tmps[t]?=a.tmps[t]?) ->
   (∀i∈A,∀j∈A,i≠j->i<n->j<n->∀o1 o2,l.toArray[i]?=some o1->l.toArray[j]?=some o2->valOf a'.eval o1.dst≠valOf a'.eval o2.dst)->wpList P l.toArray Q (l.drop n) a' w') :
  wpAny P .any l.toArray Q l.toArray.size (Array.replicate l.toArray.size false) a { w with drawn:=w.drawn+1 }:=by
 have ok:=acw hB;have hle:n<=l.length:=by have:=ok.le; simpa using this
 have inv0:HeadInv .any l.toArray n (Array.replicate l.toArray.size false):=
  ⟨by simp,λj oj _ hl=>(by rw[getD_replicate_false]at hl; cases hl),λt _ ht=>getD_in (by simpa using ht) (getD_replicate_false _ _)⟩
 have inv1:Inv l.toArray Ts C a n A k U (Array.replicate l.toArray.size false) a { w with drawn:=w.drawn+1 }:=
  ⟨rfl,rfl,λ_ _=>rfl,λj o _ _ hl=>(by rw[getD_replicate_false]at hl; cases hl),hC0,λ_ _ _ _ _ _ _ _ _ _ _ hl=>(by rw[getD_replicate_false]at hl; cases hl),λ_=>hU0⟩
 have hun:(Hf n (Array.replicate l.toArray.size false)).length=n:=by
  have:Hf n (Array.replicate l.toArray.size false)=List.range n:=by
   unfold Hf;rw[List.filter_eq_self];intro j hj;have hj':j<l.length:=by have:=List.mem_range.1 hj; omega
   simp[hj']
  rw[this,List.length_range]
 have H:=BI (P:=P) (Q:=Q) ok rfl hm hC hU hA (λi o hi ho=>hob i o hi (by simpa using ho)) (l.toArray.size-n) rfl (λa' w' inv=>?_) n _ a _ hun inv0 inv1
 .rw[show n+(l.toArray.size-n)=l.toArray.size by simp; omega]at H;exact H
 have hall:∀j,j<n->(List.replicate n true++List.replicate (l.length-n) false).toArray.getD j false=true:=λj hj=>by
  have e:(List.replicate n true++List.replicate (l.length-n) false)[j]?=some true:=by
   rw[List.getElem?_append_left (by simpa using hj),List.getElem?_replicate,if_pos hj]
  simp[e]
 refine hend a' w' inv.cls inv.defers inv.size (λj o hj=>?_) inv.out λi hi j hj hne k1 k2 o1 o2 h1 h2=>inv.apart i hi j hj hne k1 k2 o1 o2 h1 h2 (hall i k1) (hall j k2);have hjn:j<n:=by
  have:=(List.getElem?_eq_some_iff.1 hj).1;simp at this; omega
 exact inv.fact j o hjn (by rw[List.getElem?_take_of_lt hjn]at hj; simpa using hj) (hall j hjn)
abbrev BJ{ops:Array Oper}{Ts:List Fact}:Als ops Ts []:=λ_ h=>by cases h
abbrev wp_region{id:Nat}{Q:Exit->Act->World->Prop}{a:Act}{w:World}{l:List Oper}(n:Nat)(hmo:P.follows .mixedOrders=true)(hB:okB l.toArray n a.tmps.size=true)
  (R:World->World->Prop) (C:World->Prop) (Ts:List Fact) (hC0:C { w with drawn:=w.drawn+1 }) (hC:∀w w',C w->R w w'->C w') (hm:∀T∈Ts,∀v w w',R w w'->T v w->T v w')
  (hob:qL P l.toArray (l.take n) Ts R C a.eval (l.take n) Ts) (hend:∀w',C w'->End (λa'=>wpList P l.toArray Q (l.drop n) a' w') w' (l.take n) Ts a) :
  (Code.region id l.toArray true).wp P Q a w:=by
 obtain⟨hlen,hget⟩:=kQ _ _ hob;exact wp_region_any hmo (Hg n hB (λ_=>R) C [] 0 (λ_=>True) Ts BJ hC0 trivial (λ_=>hC) (λ_ _ _ _ _ _=>trivial) (λj T hT i _=>hm T (List.mem_of_getElem? hT))
  (λi o hi ho=>(hget i o (by rw[List.getElem?_take_of_lt hi]; exact ho)).cls λ_ h=>h.1) λa' w' hc hd hs hf ho _=>agM (K:=λa'=>wpList P l.toArray Q (l.drop n) a' w') (acw hB) hlen (hend w' hc) hd hs hf ho)
def is(c:Value):Fact:=λv _=>v=c
def agN(R:World->World->Prop)(T:Fact):Prop:=∀v w w',R w w'->T v w->T v w'
abbrev aB{R:World->World->Prop}(c:Value):agN R (is c):=λ_ _ _ _ h=>h
def EF(R:World->World->Prop):List Fact->Prop
 | []=>True
 | T::Ts=>agN R T∧EF R Ts
abbrev EF.mem{R:World->World->Prop}:∀{Ts:List Fact},EF R Ts->∀T∈Ts,∀v w w',R w w'->T v w->T v w'
 | _::_,h,T,hT=>by
  rcases List.mem_cons.1 hT with rfl | hT
  .exact h.1
  .exact EF.mem h.2 T hT
end
end Go.Rel
namespace Go.qj
open Go.Rel
section
variable{P:Program}{md:Region.Mode}
abbrev tK (P:Program)(ops:Array Oper)(head:List Oper)(Ts:List Fact)(R:World->World->Prop)(C:World->Prop)(DN:Operand->Value)(o:Oper)(T:Fact):Prop:=Rel.tK P ops head Ts R C DN o T
abbrev G9:=@Rel.G9
def qL(P:Program)(ops:Array Oper)(head:List Oper)(Ts:List Fact)(R:Nat->World->World->Prop)(C:Nat->World->Prop)(DN:Operand->Value):Nat->List Oper->List Fact->Prop
 | _,[],_=>True
 | _,_::_,[]=>False
 | i,o::os,T::Us=>tK P ops head Ts (R i) (C i) DN o T∧qL P ops head Ts R C DN (i+1) os Us
theorem kQ{ops:Array Oper}{head:List Oper}{Ts:List Fact}{R:Nat->World->World->Prop}{C:Nat->World->Prop}{DN:Operand->Value} :
  ∀(os:List Oper) (Us:List Fact) (k:Nat),qL P ops head Ts R C DN k os Us->os.length<=Us.length∧∀(i:Nat) o,os[i]?=some o->tK P ops head Ts (R (k+i)) (C (k+i)) DN o (Us.getD i top)
 | [],_,_,_=>⟨by simp,λi o h=>by simp at h⟩
 | _::_,[],_,h=>h.elim
 | o::os,T::Us,k,h=>by
  obtain⟨h1,h2⟩:=kQ os Us (k+1) h.2
  refine⟨by simp; omega,λi o' hi=>?_⟩
  cases i with
  | zero=>simp only[List.getElem?_cons_zero,Option.some.injEq]at hi; subst hi; exact h.1
  | succ i =>
   have:=h2 i o' (by simpa using hi)
   rw[show k+(i+1)=k+1+i by omega]
   exact this
def But(k:Nat)(R S:World->World->Prop)(i:Nat):World->World->Prop:=if i=k then S else R
def kS(k:Nat)(R S:World->World->Prop):Nat->List Fact->Prop
 | _,[]=>True
 | j,T::Ts=>agN R T∧(j≠k->agN S T)∧kS k R S (j+1) Ts
abbrev kS.get{k:Nat}{R S:World->World->Prop}:∀{Ts:List Fact} {m:Nat},kS k R S m Ts->∀(j:Nat) T,Ts[j]?=some T->∀i,i≠m+j->∀v w w',But k R S i w w'->T v w->T v w'
 | T0::Ts,m,h,j,T,hT,i,hij,v,w,w',hR,hv=>by
  cases j with
  | zero =>
   simp only[List.getElem?_cons_zero,Option.some.injEq]at hT
   subst hT
   unfold But at hR
   split at hR
   .rename_i e; subst e; exact h.2.1 (λe=>hij (by omega)) v w w' hR hv
   .exact h.1 v w w' hR hv
  | succ j=>exact kS.get h.2.2 j T (by simpa using hT) i (by omega) v w w' hR hv
abbrev kS.mem{k:Nat}{R S:World->World->Prop}{Ts:List Fact}(h:kS k R S 0 Ts):∀(j:Nat) T,Ts[j]?=some T->∀i,i≠j->∀v w w',But k R S i w w'->T v w->T v w':=
 λj T hT i hij=>kS.get h j T hT i (by omega)
abbrev U5{k i:Nat}{R S:World->World->Prop}(h:i≠k):But k R S i=R:=if_neg h
end
end Go.qj
namespace Go.Proofs.Pv
open Go.RowKit
abbrev _root_.Go.RF(w:World)(v:Value):Ending->World->Prop:=λe w'=>e = .returned v∧Ext w w'
