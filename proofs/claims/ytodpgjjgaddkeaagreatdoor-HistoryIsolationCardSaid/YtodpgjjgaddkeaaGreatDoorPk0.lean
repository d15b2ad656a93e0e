/- Ground for every seat: byte -/
import Derived.WalkKit
import Derived.WalkLawsBesides
import Derived.WalkSpells
import Derived.Lib.Hide
import Derived.Laws.AppendOwnNone
import Derived.Lib.SliceRun
import Derived.Laws.BytesArg
import Derived.Deep.QuietTactic
import Derived.BigQuiet
import Derived.ProofKit
import Derived.OpenShut
import Derived.ShutString
import Derived.ChangeOld
import Derived.StillTail
import Derived.MapKept
import Derived.Tactics
set_option maxHeartbeats 9999999
@[match_pattern]abbrev Go.Value.s(a:Option Go.Addr)(l c:Nat):Go.Value:=.slice a l c
@[match_pattern]abbrev Go.Value.b(x:Bool):Go.Value:=.bool x
@[match_pattern]abbrev Go.Ending.R(v:Go.Value):Go.Ending:=.returned v
abbrev I{α:Sort _}{a:α}:a=a:=rfl
abbrev Z{p:Prop}(h:p:=by omega):p:=h
abbrev G:True:=trivial
abbrev X{p:Prop}(h:p:=by kernel_rfl):p:=h
abbrev Y{p:Prop}(h:p:=by simp):p:=h
abbrev O{p:Prop}(h:p:=by decide):p:=h
abbrev Go.Value.i(x:Int):Go.Value:=.int .i64 x
@[match_pattern]abbrev Go.Value.sn:Go.Value:=.slice none 0 0
@[match_pattern]abbrev Go.Value.u(x:Int):Go.Value:=.int .u8 x
@[match_pattern]abbrev Go.Value.q(b o:Nat):Go.Value:=.pointer (some ⟨b,o,none⟩)
@[match_pattern]abbrev Go.Value.z:Go.Value:=.bool false
abbrev aHc:=@Nat.mul_lt_mul_of_pos_right
abbrev aHb:=@Nat.mul_lt_mul_of_pos_left
abbrev aHa:=@Nat.lt_of_mul_lt_mul_left
abbrev aG9:=@Bool.eq_false_or_eq_true
abbrev aG8:=@List.length_singleton
abbrev aG7:=@List.getElem_cons_drop
abbrev aG6:=@List.map_inj_left
abbrev aG5:=@List.eq_nil_iff_forall_not_mem
abbrev aG4:=@Nat.add_sub_cancel_left
abbrev aG3:=@Nat.div_lt_iff_lt_mul
abbrev aG2:=@Nat.le_of_lt_succ
abbrev ϸ:=@decide_eq_decide
abbrev Ϲ:=@List.getElem_cons_zero
abbrev Ϻ:=@List.drop_zero
abbrev ϻ:=@Nat.gcd_pos_of_pos_right
abbrev aGX:=@List.map_replicate
abbrev aGW:=@Nat.lt_trichotomy
abbrev aGV:=@Nat.div_eq_of_lt
abbrev aGU:=@Nat.add_mul_div_left
abbrev aGT:=@UInt32.toNat_shiftRight
abbrev Ϸ:=@List.contains_iff_mem
abbrev ϩ:=@List.drop_left
abbrev Ϫ:=@List.length_eq_zero_iff
abbrev ϫ:=@Go.World.size_alloc
abbrev Ϭ:=@List.mem_of_mem_drop
abbrev ϭ:=@Go.World.ownsRow_nil
abbrev Ϯ:=@Nat.pow_pos
abbrev ϯ:=@List.all_cons
abbrev ϕ:=@List.filterMap_cons
abbrev ϖ:=@Except.ok.injEq
abbrev ϗ:=@Prod.mk.inj
abbrev Ϙ:=@Nat.gcd_dvd_right
abbrev ϙ:=@List.map_toArray
abbrev Ϛ:=@Array.toArray_toList
abbrev ϛ:=@Nat.le_of_eq
abbrev Ϝ:=@List.replicate_zero
abbrev ϝ:=@Bool.false_eq_true
abbrev Ϟ:=@Nat.lt_of_le_of_lt
abbrev ϟ:=@List.getElem_take
abbrev Ϡ:=@Nat.mul_pos
abbrev aGy:=@Nat.shiftRight_eq_div_pow
abbrev χ:=@Go.rounds_succ
abbrev ϊ:=@Go.World.ownsRow_lit
abbrev ϋ:=@UInt8.toNat_inj
abbrev ό:=@Nat.div_lt_of_lt_mul
abbrev ύ:=@Nat.mul_left_comm
abbrev ϡ:=@List.replicate_succ
abbrev Κ:=@Array.all_eq_true'
abbrev Λ:=@Nat.sub_self
abbrev Μ:=@Nat.div_le_self
abbrev Ÿ:=@List.drop_drop
abbrev Ź:=@List.not_mem_nil
abbrev ź:=@Int.natAbs_natCast
abbrev Ż:=@List.nodup_cons
abbrev Ν:=@Nat.add_comm
abbrev ż:=@Nat.add_zero
abbrev Ž:=@Nat.pow_add
abbrev Ξ:=@Nat.mod_eq_of_lt
abbrev ž:=@Go.Sem.run_pure
abbrev Ϣ:=@List.mem_range
abbrev ū:=@List.mem_append_left
abbrev Ŭ:=@Go.IntKind.wrap_i64
abbrev ŭ:=@Except.error.injEq
abbrev Ů:=@Array.mk.injEq
abbrev ů:=@Go.Value.agg.injEq
abbrev Ű:=@List.map_set
abbrev ű:=@Nat.mul_le_mul
abbrev Ο:=@Nat.add_assoc
abbrev Ų:=@beq_self_eq_true
abbrev ſ:=@Go.wp_region_any
abbrev Α:=@Option.bind_some
abbrev Β:=@Go.RowKit.Below.trans
abbrev Δ:=@Nat.le_of_lt
abbrev ś:=@List.mem_append_right
abbrev Ŝ:=@decide_eq_false
abbrev ŝ:=@List.mem_of_mem_take
abbrev Ş:=@List.length_drop
abbrev ş:=@Go.Result.andThen_ok
abbrev ų:=@Bool.or_eq_true
abbrev Ŵ:=@Go.Addr.mk.injEq
abbrev ŗ:=@Int.toNat_natCast
abbrev Ř:=@UInt32.toNat_inj
abbrev ř:=@Nat.mod_add_div
abbrev ő:=@List.mem_filterMap
abbrev Œ:=@Nat.add_mul
abbrev œ:=@Nat.two_pow_pos
abbrev Ε:=@Nat.min_eq_left
abbrev Ŕ:=@Nat.mul_succ
abbrev ŋ:=@List.nodup_append
abbrev Ō:=@List.drop_eq_nil_of_le
abbrev ō:=@Nat.mul_le_mul_right
abbrev ŕ:=@Bool.false_and
abbrev ŉ:=@Bool.eq_iff_iff
abbrev Ŋ:=@Nat.mod_lt
abbrev Ŏ:=@Bool.not_eq_true'
abbrev ŏ:=@Go.IntKind.wrap_u64
abbrev ņ:=@decide_eq_true
abbrev Ň:=@Bool.not_eq_false'
abbrev ň:=@List.take_append_drop
abbrev Ś:=@List.eq_nil_of_length_eq_zero
abbrev ń:=@List.drop_eq_getElem_cons
abbrev ŀ:=@List.flatMap_append
abbrev Ł:=@Bool.true_and
abbrev ł:=@List.length_nil
abbrev Ļ:=@Go.wp_exit
abbrev ļ:=@List.mem_cons_of_mem
abbrev ĵ:=@List.map_nil
abbrev Ķ:=@List.flatMap_cons
abbrev ķ:=@Nat.pow_le_pow_right
abbrev Ĳ:=@List.length_take
abbrev ĳ:=@List.append_nil
abbrev Ĵ:=@List.cons_append
abbrev ĸ:=@List.take_succ_eq_append_getElem
abbrev ĭ:=@List.length_map
abbrev Į:=@Option.isSome_iff_exists
abbrev Ħ:=@List.map_append
abbrev ħ:=@List.take_length
abbrev Ģ:=@List.nil_append
abbrev ĩ:=@Nat.lt_or_ge
abbrev Ī:=@Nat.zero_add
abbrev ġ:=@Go.Sem.run_bind
abbrev Ě:=@Go.wp_block
abbrev ě:=@Option.map_some
abbrev Ĝ:=@Nat.mul_assoc
abbrev ĝ:=@List.lookup_cons
abbrev ė:=@Nat.eq_zero_or_pos
abbrev Ę:=@Nat.mul_le_mul_left
abbrev ę:=@Nat.pow_succ
abbrev Ĕ:=@Bool.or_eq_false_iff
abbrev ĕ:=@Nat.mul_comm
abbrev đ:=@List.map_cons
abbrev Ē:=@List.length_cons
abbrev Ď:=@List.take_of_length_le
abbrev Ą:=@decide_eq_false_iff_not
abbrev ā:=@List.mem_append
abbrev Ă:=@List.cons.injEq
abbrev Ĉ:=@Go.Value.slice.injEq
abbrev û:=@List.mem_singleton
abbrev ú:=@Go.wp_skip
abbrev õ:=@beq_eq_false_iff_ne
abbrev ô:=@List.mem_map
abbrev ö:=@Nat.lt_of_lt_of_le
abbrev ò:=@List.getElem_mem
abbrev ó:=@Nat.mul_add
abbrev ñ:=@List.all_eq_true
abbrev ø:=@Go.RowKit.Below.refl
abbrev é:=@of_decide_eq_false
abbrev ç:=@List.append_assoc
abbrev ä:=@Nat.le_trans
abbrev Ý:=@of_decide_eq_true
abbrev Þ:=@decide_eq_true_eq
abbrev ß:=@beq_iff_eq
abbrev Û:=@Bool.and_eq_true
abbrev Ù:=@List.mem_cons
abbrev Ö:=@List.mem_cons_self
abbrev Ô:=@Go.wp_seq_k
abbrev Ò:=@Option.some.inj
abbrev Ñ:=@congrArg
abbrev Î:=@Nat.zero_le
abbrev Ê:=@Prod.mk.injEq
abbrev Å:=@List.length_append
abbrev Ç:=@Nat.le_refl
abbrev Æ:=@Option.some.injEq
abbrev Á:=@if_pos
abbrev UQ:=@if_neg
abbrev FU:=@Go.Lib.hid
section
namespace Go.Proofs.Õ
open Go.RowKit
variable{α:Type}
def dG(f:α->Value)(w:World)(v:Value)(l:List α):Prop:=
 ∃a cap,v = .slice a l.length cap∧cap<=maxLen ∧
  ((l=[]∧(a=none->cap=0)) ∨
   ∃b o,a=some ⟨b,o,none⟩∧b<w.heap.size∧l.length<=cap∧∀i (h:i<l.length),w.cell? ⟨b,o+i,none⟩=some (f l[i]))
abbrev gY (x:UInt8):Value := .u (x.toNat:Int)
abbrev bn (x:UInt32):Value := .int .u32 (x.toNat:Int)
abbrev aiy (x:UInt64):Value := .int .u64 (x.toNat:Int)
abbrev bK (w:World)(v:Value)(l:List UInt8):Prop:=dG gY w v l
abbrev dG.below{f:α->Value}{w w':World}{v:Value}{l:List α}(h:dG f w v l)(J:Below w.heap.size w w'):dG f w' v l:=by
 obtain⟨a,cap,D,S,h⟩:=h;refine⟨a,cap,D,S,?_⟩;rcases h with h | ⟨b,o,S,D,hl,hc⟩
 .exact .inl h
 exact .inr ⟨b,o,S,by have:=J.size; omega,hl,λi S=>by rw[J.cell (p:=⟨b,o+i,none⟩) D]; exact hc i S⟩
abbrev rZ{f:α->Value}{w:World}{a:Option Addr}{cap:Nat}{l:List α}(D:cap<=maxLen)
  (h:(l=[]∧(a=none->cap=0)) ∨
   ∃b o,a=some ⟨b,o,none⟩∧b<w.heap.size∧l.length<=cap∧∀i (h:i<l.length),w.cell? ⟨b,o+i,none⟩=some (f l[i])) :
  l.length<=9223372036854775807:=by
 unfold maxLen at D;rcases h with ⟨rfl,_⟩ | ⟨_,_,_,_,h,_⟩
 .simp
 omega
abbrev jO{k:IntKind}{a b:Int}(h:a=b):Ending.returned (.int k a) = .returned (.int k b):=by rw[h]
abbrev G9{k:IntKind}{a b:Int}(h:a=b):Value.int k a = .int k b:=by rw[h]
def dQ(w:World)(size:Nat)(v:Value)(n:Nat)(xs:List Value):Prop:=
 xs.length=n*size∧(∀u∈xs,u.oneCell'=true) ∧
  ((n=0∧∃a cap,v = .slice a 0 cap∧(a=none->cap=0)) ∨
   ∃b o cap,v = .slice (some ⟨b,o,none⟩) n cap∧b<w.heap.size∧n<=cap∧cap<=maxLen∧∀(j:Nat) u,xs[j]?=some u->w.cell? ⟨b,o+j,none⟩=some u)
abbrev dG.raw{f:α->Value}(J:∀x,(f x).oneCell'=true){w:World}{v:Value}{l:List α}(h:dG f w v l):dQ w 1 v l.length (l.map f):=by
 obtain⟨a,cap,rfl,D,h⟩:=h;refine⟨by simp,by simpa using λx _=>J x,?_⟩;rcases h with ⟨rfl,J⟩ | ⟨b,o,rfl,S,hl,hc⟩
 .exact .inl ⟨rfl,a,cap,rfl,J⟩
 refine .inr ⟨b,o,cap,rfl,S,hl,D,λj u J=>?_⟩;have D:j<l.length:=by
  have:=(List.getElem?_eq_some_iff.1 J).1; simpa using this
 rw[hc j D];simpa[List.getElem?_eq_getElem D]using J
abbrev SK{w:World}{base:Nat}{e:TypeId}{size:Nat}{v:Value}{n:Nat}{xs:List Value}(h:w.ownsRow base e size v n xs)
  (D:∀u∈xs,u.oneCell'=true):dQ w size v n xs:=by
 refine⟨h.1,D,?_⟩;have D:=h.lt;rcases h.2 with ⟨rfl,rfl⟩ | ⟨g,cap,J,rfl,hb,hg,hn,S,hc,ht⟩
 .exact .inl ⟨rfl,none,0,rfl,λ_=>rfl⟩
 refine .inr ⟨g,0,cap,rfl,(D g rfl).2,hn,S,λj u J=>?_⟩;have D:j<n*size:=by
  have:=(List.getElem?_eq_some_iff.1 J).1; rw[h.1]at this; exact this
 rw[Nat.zero_add,h.cellAt j D,J]
abbrev bC{f:α->Value}{w:World}{base:Nat}{e:TypeId}{v:Value}{l:List α}(h:w.ownsRow base e 1 v l.length (l.map f)):dG f w v l:=by
 have D:=h.lt;rcases h.2 with ⟨rfl,J⟩ | ⟨g,cap,S,rfl,hb,hg,hn,hm,hc,ht⟩
 .exact⟨none,0,by rw[J],Nat.zero_le _,.inl ⟨List.eq_nil_of_length_eq_zero J,λ_=>rfl⟩⟩
 refine⟨_,cap,rfl,hm,.inr ⟨g,0,rfl,(D g rfl).2,hn,λi J=>?_⟩⟩;rw[Nat.zero_add,h.cellAt i (by omega)];simp[List.getElem?_eq_getElem J]
structure fM (P:Program) (t e:TypeId) (z:Value) (size bytes:Nat):Prop where
 und:P.underlying t=some (.slice e)
 info:∃i,P.info? e=some i∧i.zero=some z∧i.size=size∧i.bytes=bytes
 zc:z.cells.size=size
 pos:0<size
abbrev bV{P:Program}{w:World}{ops:Array Oper}{rest:List Oper}{o:Oper}{a:Act}{Q:Exit->Act->World->Prop}
  (aa:o.guard=none) (s x:Operand) (t:TypeId) (ho:o.op = .call { callee := .builtin .append,args := #[s,x],argTypes := #[t,t] })
  {e:TypeId} {z:Value} {size bytes:Nat} (T:fM P t e z size bytes) (base:Nat)
  {v:Value} {n:Nat} {xs:List Value} (D:w.ownsRow base e size v n xs) (hs:a.eval s=v)
  {y:Value} {m:Nat} {ys:List Value} (hy:dQ w size y m ys) (hx:a.eval x=y)
  (af:n+m<=maxLen) (J:(n+m)*bytes<=140737488355328) (S:base<=w.heap.size)
  (h:∀v' w',w'.ownsRow base e size v' (n+m) (xs++ys)->w.grownBy w' v.ownBlock->wpList P ops Q rest (a.put o.dst v') w'):wpList P ops Q (o::rest) a w:=by
 obtain⟨i,hi,ab,ac,ae⟩:=T.info;obtain⟨hl,h1,hy⟩:=hy;rcases hy with ⟨rfl,ad,cap,rfl,hz⟩ | ⟨b,off,cap,rfl,hb,hn,hm,hc⟩
 .have:ys=[]:=List.eq_nil_of_length_eq_zero (by simpa using hl);subst this;rcases ad with _ | ad;case some =>
   refine wpList_append_own w aa s x t ho base e i z size bytes T.und hi ab ac ae T.zc T.pos v n xs hs D ad 0 cap [] hx (by simp) (by simp) (by simp) af J S ?_;intro v' w' h2 h3 _; exact h v' w' h2 h3
  obtain rfl:=hz rfl;refine wpList_append_own_none aa s x t ho base e i size T.und hi v n xs hs D hx ?_;exact h v w (by simpa using D) ⟨rfl,rfl,rfl,Nat.le_refl _,λ_ _ _=>rfl⟩
 refine wpList_append_own w aa s x t ho base e i z size bytes T.und hi ab ac ae T.zc T.pos v n xs hs D ⟨b,off,none⟩ m cap ys hx hl ?_ h1 af J S ?_
 .intro j u hj;have:(⟨b,off,none⟩:Addr).add j=⟨b,off+j,none⟩:=by unfold Addr.add; split<;>simp_all
  rw[this]; exact hc j u hj
 intro v' w' h2 h3 _; exact h v' w' h2 h3
abbrev oC{P:Program}{w:World}{src e dst:TypeId}(D:P.underlying src=some (.slice e))(J:P.underlying e=some (.int .u8))(hd:P.underlying dst=some .string)
  {v:Value} {l:List UInt8} (h:bK w v l):(convert src dst v).run P w = .ok (.string ⟨l.toArray⟩) w:=by
 obtain⟨a,cap,rfl,S,h⟩:=h;rcases h with ⟨rfl,hz⟩ | ⟨b,o,rfl,hb,hl,S⟩
 .rcases a with _ | ad
  .exact run_convert_bytes_nil w src e D J _ _ dst hd
  have hl:(loadCells ad 0).run P w = .ok (([]:List Int).map (Value.int .u8)).toArray w:=by simpa using run_loadCells_list (P:=P) w ad [] (by simp)
  rw[run_convert_bytes_string w src dst e _ _ cap D J hd];exact(run_bytesToString w ad 0 cap [] hl).trans rfl
 rw[run_convert_bytes_arg w src e D J b o l.length cap (l.map λc=>(c.toNat:Int)) (by simp) ?_ dst hd]
 .congr 2;simp only[strOfNums,List.map_map];congr 2;rw[List.map_congr_left (g:=id) (λc _=>by simp)]; simp
 intro i D;rw[S i D]; simp[List.getElem?_eq_getElem D]
def Iq(R:World->Value->α->Prop)(w:World)(v:Value)(l:List α):Prop:=
 ∃a cap,v = .slice a l.length cap∧cap<=maxLen ∧
  ((l=[]∧(a=none->cap=0)) ∨
   ∃b o,a=some ⟨b,o,none⟩∧b<w.heap.size∧l.length<=cap∧∀i (h:i<l.length),∃x,w.cell? ⟨b,o+i,none⟩=some x∧R w x l[i])
abbrev Iq.below{R:World->Value->α->Prop}(hR:∀w w' x y,Below w.heap.size w w'->R w x y->R w' x y){w w':World}{v:Value}{l:List α}
  (h:Iq R w v l) (J:Below w.heap.size w w'):Iq R w' v l:=by
 obtain⟨a,cap,D,S,h⟩:=h;refine⟨a,cap,D,S,?_⟩;rcases h with h | ⟨b,o,S,D,hl,hc⟩
 .exact .inl h
 refine .inr ⟨b,o,S,by have:=J.size; omega,hl,λi S=>?_⟩;obtain⟨x,hx,hr⟩:=hc i S;exact⟨x,by rw[J.cell (p:=⟨b,o+i,none⟩) D]; exact hx,hR _ _ _ _ J hr⟩
abbrev yS (w:World)(v:Value)(D:List (List UInt8)):Prop:=Iq bK w v D
abbrev aeh{R:World->Value->α->Prop}{w:World}{a:Option Addr}{cap:Nat}{l:List α}(D:cap<=maxLen)
  (h:(l=[]∧(a=none->cap=0)) ∨
   ∃b o,a=some ⟨b,o,none⟩∧b<w.heap.size∧l.length<=cap∧∀i (h:i<l.length),∃x,w.cell? ⟨b,o+i,none⟩=some x∧R w x l[i]) :
  l.length<=9223372036854775807:=by
 unfold maxLen at D;rcases h with ⟨rfl,_⟩ | ⟨_,_,_,_,h,_⟩
 .simp
 omega
abbrev take_snoc(l:List α)(k:Nat)(h:k<l.length):l.take (k+1)=l.take k++[l[k]]:=by
 rw[List.take_succ_eq_append_getElem h]
abbrev dQ.below{w w':World}{size:Nat}{v:Value}{n:Nat}{xs:List Value}(h:dQ w size v n xs)(J:Below w.heap.size w w'):dQ w' size v n xs:=by
 obtain⟨D,S,h⟩:=h;refine⟨D,S,?_⟩;rcases h with h | ⟨b,o,cap,S,D,hl,hm,hc⟩
 .exact .inl h
 exact .inr ⟨b,o,cap,S,by have:=J.size; omega,hl,hm,λj u S=>by rw[J.cell (p:=⟨b,o+j,none⟩) D]; exact hc j u S⟩
abbrev Ep{w:World}{size:Nat}{v:Value}{n:Nat}{xs:List Value}(h:dQ w size v n xs)(o:Obj):dQ (w.alloc o) size v n xs:=
 h.below ((Below.refl _ _).alloc (Nat.le_refl _) o)
abbrev dG.len{f:α->Value}{w:World}{v:Value}{l:List α}(h:dG f w v l):l.length<=maxLen:=by
 obtain⟨a,cap,rfl,D,h⟩:=h;rcases h with ⟨rfl,_⟩ | ⟨b,o,rfl,D,hl,J⟩
 .simp
 omega
abbrev PV(w:World)(cs:Array Value)(e:TypeId)(n size:Nat)(J:cs.size=n*size)(S:n<=maxLen)(h1:∀u∈cs.toList,u.oneCell'=true) :
  dQ (w.alloc (.cells cs e)) size (.slice (some ⟨w.heap.size,0,none⟩) n n) n cs.toList:=by
 refine⟨by simpa using J,h1,.inr ⟨w.heap.size,0,n,rfl,by simp,Nat.le_refl _,S,λj u D=>?_⟩⟩;rw[Nat.zero_add,World.cell?_alloc_at _ _ _ _ rfl]; simpa using D
abbrev PW{f:α->Value}(w:World)(l:List α)(e:TypeId)(J:l.length<=maxLen) :
  dG f (w.alloc (.cells (l.map f).toArray e)) (.slice (some ⟨w.heap.size,0,none⟩) l.length l.length) l:=by
 refine⟨_,_,rfl,J,.inr ⟨_,_,rfl,by simp,Nat.le_refl _,λi D=>?_⟩⟩;rw[Nat.zero_add,World.cell?_alloc_at _ _ _ _ rfl]; simp[List.getElem?_eq_getElem D]
abbrev ZY{R:World->Value->α->Prop}(w:World)(x:Value)(y:α)(e:TypeId)(h:R (w.alloc (.cells #[x] e)) x y) :
  Iq R (w.alloc (.cells #[x] e)) (.slice (some ⟨w.heap.size,0,none⟩) 1 1) [y]:=by
 refine⟨_,_,rfl,by unfold maxLen; omega,.inr ⟨_,_,rfl,by simp,Nat.le_refl _,λi D=>?_⟩⟩;have:i=0:=by simpa using D
 subst this;exact⟨x,by rw[World.cell?_alloc_at _ _ _ _ rfl]; simp,h⟩
abbrev bF{w:World}{base D:Nat}{e:TypeId}{size:Nat}{v:Value}{n:Nat}{xs:List Value}(h:w.ownsRow base e size v n xs)(J:D<=base):w.ownsRow D e size v n xs:=by
 obtain⟨J,D⟩:=h;refine⟨J,?_⟩;rcases D with D | ⟨g,cap,J,S,hg,r⟩
 .exact .inl D
 exact .inr ⟨g,cap,J,S,by omega,r⟩
abbrev aI(w:World)(o:Obj):Below w.heap.size w (w.alloc o):=(Below.refl _ _).alloc (Nat.le_refl _) o
abbrev aei{f:α->Value}{w:World}{b o cap n:Nat}{l:List α}(D:b<w.heap.size)(hl:l.length<=cap)(J:cap<=maxLen)(hn:n<=l.length)
  (S:∀i (h:i<l.length),w.cell? ⟨b,o+i,none⟩=some (f l[i])):dG f w (.slice (some ⟨b,o,none⟩) n cap) (l.take n):=by
 have e:(l.take n).length=n:=by simp; omega
 refine⟨_,cap,by rw[e],J,.inr ⟨b,o,rfl,D,by omega,λi hi=>?_⟩⟩;rw[S i (by omega)]; simp
abbrev He{f:α->Value}(w:World):dG f w (.sn) []:=⟨none,0,rfl,Nat.zero_le _,.inl ⟨rfl,λ_=>rfl⟩⟩
abbrev Ext (w w':World):Prop:=Below w.heap.size w w'
abbrev å{w:World}:Ext w w:=Below.refl _ _
abbrev Ip{a b c:World}(D:Ext a b)(J:Ext b c):Ext a c:=Below.trans D (Below.mono J D.size)
abbrev aH (w:World)(v:Value)(l:List UInt32):Prop:=dG bn w v l
abbrev dG.shape{f:α->Value}{w:World}{v:Value}{l:List α}(h:dG f w v l):∃a cap,v = .slice a l.length cap:=by
 obtain⟨a,cap,h,_⟩:=h; exact⟨a,cap,h⟩
abbrev dO{f:α->Value}{w:World}{v:Value}{l:List α}{n:Nat}(h:dG f w v l)(hn:l.length=n)(hp:0<n) :
  ∃b o cap,v = .slice (some ⟨b,o,none⟩) n cap∧b<w.heap.size∧n<=cap∧cap<=maxLen∧∀i (h:i<l.length),w.cell? ⟨b,o+i,none⟩=some (f l[i]):=by
 subst hn;obtain⟨a,cap,rfl,D,h⟩:=h;rcases h with ⟨rfl,_⟩ | ⟨b,o,rfl,J,hl,S⟩
 .simp at hp
 exact⟨b,o,cap,rfl,J,hl,D,S⟩
abbrev Hf{f:α->Value}{w:World}{a:Option Addr}{cap cap' n:Nat}{l:List α}(h:dG f w (.slice a l.length cap) l)(hn:n<=l.length)(D:n<=cap')(hm:cap'<=maxLen)(ha:a=none->cap'=0) :
  dG f w (.slice a n cap') (l.take n):=by
 obtain⟨a',D,J,S,h⟩:=h;simp only[Value.slice.injEq,true_and]at J;obtain⟨rfl,rfl⟩:=J;have e:(l.take n).length=n:=by simp; omega
 refine⟨a,cap',by rw[e],hm,?_⟩;rcases h with ⟨rfl,S⟩ | ⟨b,o,rfl,J,hl,D⟩
 .exact .inl ⟨by simp,ha⟩
 exact .inr ⟨b,o,rfl,J,by omega,λi S=>by rw[D i (by omega)]; simp⟩
abbrev dF{w w':World}{base:Nat}{e:TypeId}{size:Nat}{v:Value}{n:Nat}{xs:List Value}(h:w.ownsRow base e size v n xs)(hb:Ext w w'):w'.ownsRow base e size v n xs:=by
 obtain⟨J,D⟩:=h;refine⟨J,?_⟩;rcases D with D | ⟨g,cap,J,hv,hg,S,r⟩
 .exact .inl D
 refine .inr ⟨g,cap,J,hv,hg,?_,r⟩;have D:g<w.heap.size:=by
  rcases Nat.lt_or_ge g w.heap.size with h | h
  .exact h
  rw[Array.getElem?_eq_none h]at S; simp at S
 rw[hb.block g D]; exact S
abbrev wpList_make_row{P:Program}{w:World}{ops:Array Oper}{rest:List Oper}{o:Oper}{a:Act}{Q:Exit->Act->World->Prop}
  (hg:o.guard=none) (l c:Operand) (t:TypeId) (S:o.op=Op.makeSlice t l c)
  {e:TypeId} {z:Value} {bytes:Nat} (T:fM P t e z 1 bytes) (aa:z.cells = #[z]) (base:Nat)
  {L:Int} (n:Nat) (hl:a.eval l = .i L) (hc:a.eval c = .i L) (hL:L=(n:Int)) (b2:bytes*n<=281474976710656) (b3:n<=maxLen) (b4:base<=w.heap.size)
  (hK:∀w',w'.ownsRow base e 1 (.slice (some ⟨w.heap.size,0,none⟩) n n) n (List.replicate n z)->w.grownBy w' none ->
   wpList P ops Q rest (a.put o.dst (.slice (some ⟨w.heap.size,0,none⟩) n n)) w') :
  wpList P ops Q (o::rest) a w:=by
 obtain⟨i,hi,hz,D,J⟩:=T.info;subst J
 refine wpList_make_full w hg l c t S base e i z 1 T.und hi hz D .i64 .i64 L L n hl hc hL hL b2 b3 b4 λw' J h2=>hK w' ?_ h2;rw[aa,Nat.mul_one,toList_madeCells_one]at J;exact J
abbrev gQ{B:Nat}{a w w':World}(h:Below B a w)(D:w.grownBy w' none)(hB:B<=w.heap.size):Below B a w':=h.grown D hB (λ_ h=>by cases h)
abbrev Hg(n:Nat)(z x:α)(q:List α):(List.replicate (n+1) z++q).set n x=List.replicate n z++x::q:=by
 rw[List.replicate_succ',List.append_assoc,List.set_append];simp
abbrev zO{P:Program}{w:World}{ops:Array Oper}{rest:List Oper}{o:Oper}{a:Act}{Q:Exit->Act->World->Prop}
  (ai:o.guard=none) (s x:Operand) (t:TypeId) (ho:o.op = .call { callee := .builtin .append,args := #[s,x],argTypes := #[t,t] })
  {e:TypeId} {z:Value} {size bytes:Nat} (T:fM P t e z size bytes)
  {ad:Option Addr} {n:Nat} {xs:List Value} (hv:dQ w size (.slice ad n n) n xs) (hs:a.eval s = .slice ad n n)
  {b off cap m:Nat} {ys:List Value} (hy:dQ w size (.slice (some ⟨b,off,none⟩) m cap) m ys) (hx:a.eval x = .slice (some ⟨b,off,none⟩) m cap) (D:0<m)
  (al:n+m<=maxLen) (D:(n+m)*bytes<=140737488355328)
  (h:∀S w',w'.ownsRow w.heap.size e size S (n+m) (xs++ys)->Ext w w'->wpList P ops Q rest (a.put o.dst S) w'):wpList P ops Q (o::rest) a w:=by
 obtain⟨i,hi,ab,ac,ae⟩:=T.info;obtain⟨af,ag,hy⟩:=hy;have aa:∀(j:Nat) u,ys[j]?=some u->w.cell? ((⟨b,off,none⟩:Addr).add j)=some u:=by
  intro j u hj;have J:(⟨b,off,none⟩:Addr).add j=⟨b,off+j,none⟩:=by unfold Addr.add; split<;>simp_all
  rw[J];rcases hy with ⟨h0,_⟩ | ⟨b',o',cap',J,_,_,_,hc⟩
  .omega
  simp only[Value.slice.injEq,Option.some.injEq,Addr.mk.injEq,and_true]at J;obtain⟨⟨rfl,rfl⟩,-,-⟩:=J;exact hc j u hj
 obtain⟨ah,ao,hv⟩:=hv;rcases hv with ⟨rfl,a0,c0,J,hz⟩ | ⟨b0,o0,an,J,ap,aq,ar,am⟩
 .have hxs:xs=[]:=List.eq_nil_of_length_eq_zero (by simpa using ah);subst hxs;refine wpList_append_grows w ai s x t ho e i z size bytes T.und hi ab ac ae T.zc T.pos ad 0 0 [] hs (λ_=>⟨rfl,rfl⟩) (by simp) (by simp) ⟨b,off,none⟩ m cap ys hx af aa ag (by omega) al D ?_;intro S w' h1 h2;exact h S w' (by simpa using h1) (gQ (Below.refl _ _) h2 (Nat.le_refl _))
 simp only[Value.slice.injEq]at J;obtain⟨rfl,-,rfl⟩:=J;refine wpList_append_arg w ai s x t ho e i z size bytes T.und hi ab ac ae T.zc T.pos b0 o0 n n xs hs ah am ⟨b,off,none⟩ m cap ys hx af aa ag (λh=>by omega) al D (λh=>by omega) ?_;intro _ S w' h1 h2;exact h S w' h1 (gQ (Below.refl _ _) h2 (Nat.le_refl _))
abbrev su{w:World}{base:Nat}{e:TypeId}{g n cap:Nat}{xs:List Value}(h:w.ownsRow base e 1 (.slice (some ⟨g,0,none⟩) n cap) n xs)(j:Nat)(D:j<n) :
  (∃u,w.cell? ⟨g,j,none⟩=some u)∧w.frozen? ⟨g,j,none⟩=false:=by
 refine⟨⟨xs[j]'(by have:=h.1; omega),?_⟩,h.frozenAt j⟩;rw[h.cellAt j (by omega),List.getElem?_eq_getElem]
abbrev oD(w:World)(x:Value)(e:TypeId)(h:x.oneCell'=true):dQ (w.alloc (.cells #[x] e)) 1 (.slice (some ⟨w.heap.size,0,none⟩) 1 1) 1 [x]:=
 PV w #[x] e 1 1 rfl (by unfold maxLen; omega) (by intro u D; simp at D; rw[D]; exact h)
abbrev jf{w:World}{base:Nat}{e:TypeId}{size:Nat}{v:Value}{n:Nat}{xs:List Value}(h:w.ownsRow base e size v n xs)(hn:0<n) :
  ∃g cap,v = .slice (some ⟨g,0,none⟩) n cap∧base<=g∧n<=cap∧cap<=maxLen:=by
 rcases h.2 with ⟨_,h0⟩ | ⟨g,cap,D,J,S,_,hc,hm,_⟩
 .omega
 exact⟨g,cap,J,S,hc,hm⟩
open Go.RowKit
abbrev alW(a b:UInt32):bits .xor .u32 (a.toNat:Int) (b.toNat:Int)=((a^^^b).toNat:Int):=by
 rw[u32_xor_nat _ _ a.toNat_lt b.toNat_lt,UInt32.toNat_xor]
abbrev ba32(a b:UInt32):bits .and .u32 (a.toNat:Int) (b.toNat:Int)=((a&&&b).toNat:Int):=by
 rw[u32_and_nat _ _ a.toNat_lt b.toNat_lt,UInt32.toNat_and]
abbrev auv(a b:UInt64):bits .xor .u64 (a.toNat:Int) (b.toNat:Int)=((a^^^b).toNat:Int):=by
 rw[u64_xor_nat _ _ a.toNat_lt b.toNat_lt,UInt64.toNat_xor]
abbrev akS:IntKind.u32.max=4294967295:=by decide
abbrev aej(x:UInt32):(x.toNat:Int)/(2:Int)=((x>>>1).toNat:Int):=by
 rw[UInt32.toNat_shiftRight]; simp[Nat.shiftRight_eq_div_pow]
abbrev aek(x:UInt32):(x.toNat:Int)/(256:Int)=((x>>>8).toNat:Int):=by
 rw[UInt32.toNat_shiftRight]; simp[Nat.shiftRight_eq_div_pow]
abbrev alX(c:UInt8):(c.toNat:Int)%(4294967296:Int)=(c.toUInt32.toNat:Int):=by
 have:=c.toNat_lt; simp; omega
abbrev xw(x:UInt32):(x.toNat:Int)%(256:Int)=(x.toUInt8.toNat:Int):=by simp
abbrev apA(a:UInt32):bits .xor .u32 (a.toNat:Int) 3988292384=((a^^^0xedb88320).toNat:Int):=by
 have:=alW a 3988292384; simpa using this
abbrev ael(a:UInt32):bits .xor .u32 4294967295 (a.toNat:Int)=((a^^^0xffffffff).toNat:Int):=by
 have:=alW 4294967295 a; rw[UInt32.xor_comm]; simpa using this
abbrev akT(a:UInt32):bits .and .u32 (a.toNat:Int) 1=((a&&&1).toNat:Int):=by
 have:=ba32 a 1; simpa using this
abbrev aiz(x:UInt64):IntKind.u64.wrap (x.toNat:Int)=(x.toNat:Int):=by
 have:=x.toNat_lt; rw[IntKind.wrap_u64]; omega
set_option linter.unusedVariables false
set_option linter.unusedSimpArgs false
open Go.RowKit
variable{α:Type}
abbrev Ch (b:Nat)(w w':World):Prop:=w.grownBy w' (some b)
abbrev Ch.refl(b:Nat)(w:World):Ch b w w:=⟨rfl,rfl,rfl,Nat.le_refl _,λ_ _ _=>rfl⟩
abbrev Ch.trans{b:Nat}{w w1 w2:World}(h:Ch b w w1)(k:Ch b w1 w2):Ch b w w2:=
 ⟨k.os.trans h.os,k.tape.trans h.tape,k.output.trans h.output,Nat.le_trans h.size k.size,λi D hn=>(k.block i (Nat.lt_of_lt_of_le D h.size) hn).trans (h.block i D hn)⟩
abbrev Ch.aY{b:Nat}{w w':World}(h:Ext w w'):Ch b w w':=⟨h.os,h.tape,h.output,h.size,λi D _=>h.block i D⟩
abbrev Ch.drewN{b:Nat}{w w':World}(h:Ch b w w')(n:Nat):Ch b w (w'.drewN n):=Ch.trans h (Ch.aY (below_drewN (Below.refl _ _) n))
abbrev Ch.setCell{b:Nat}{w w':World}(h:Ch b w w')(o:Nat)(v:Value):Ch b w (w'.setCell ⟨b,o,none⟩ v):=
 Ch.trans h ⟨rfl,rfl,rfl,by simp[World.setCell],λk _ hk=>Below.heap_setCell _ _ _ _ (λe=>hk (by rw[e]))⟩
abbrev Ch.cell{b:Nat}{w w':World}(h:Ch b w w'){p:Addr}(D:p.block<w.heap.size)(J:p.block≠b):w'.cell? p=w.cell? p:=
 World.cell?_of_block (h.block _ D (λe=>J (by simpa using e)))
abbrev Ch.frozen{b:Nat}{w w':World}(h:Ch b w w'){p:Addr}(D:p.block<w.heap.size)(J:p.block≠b):w'.frozen? p=w.frozen? p:=
 World.frozen?_of_block (h.block _ D (λe=>J (by simpa using e)))
abbrev Ch.below{b B:Nat}{w w':World}(h:Ch b w w')(D:B<=b)(J:B<=w.heap.size):Below B w w':=⟨h.os,h.tape,h.output,h.size,λk hk=>h.block k (by omega) (λe=>by simp at e; omega)⟩
def Off(b:Nat)(v:Value):Prop:=∀ad n cap,v = .slice (some ad) n cap->ad.block≠b
abbrev dG.ch{f:α->Value}{b:Nat}{w w':World}{v:Value}{l:List α}(h:dG f w v l)(hc:Ch b w w')(ho:0<l.length->Off b v):dG f w' v l:=by
 obtain⟨a,cap,rfl,D,h⟩:=h;refine⟨a,cap,rfl,D,?_⟩;rcases h with h | ⟨D,o,rfl,J,hl,S⟩
 .exact .inl h
 exact .inr ⟨D,o,rfl,by have:=hc.size; omega,hl,λi hi=>by rw[hc.cell (p:=⟨D,o+i,none⟩) J (ho (by omega) ⟨D,o,none⟩ _ _ rfl)]; exact S i hi⟩
abbrev aiA{f:α->Value}{w:World}{v:Value}{l:List α}(h:dG f w v l){b:Nat}(D:w.heap.size<=b):0<l.length->Off b v:=by
 intro h0 ad n cap J;obtain⟨bb,o,cap',D,S,_⟩:=dO h rfl h0;rw[D]at J;simp only[Value.slice.injEq,Option.some.injEq]at J;rw[<-J.1]; simp only; omega
abbrev jg{w w1:World}{cs:Array Value}{t:TypeId}(D:Ext (w.alloc (.cells cs t)) w1) :
  (∀i,w1.cell? ⟨w.heap.size,i,none⟩=cs[i]?)∧(∀i,w1.frozen? ⟨w.heap.size,i,none⟩=false)∧w.heap.size<w1.heap.size:=by
 refine⟨λi=>?_,λi=>?_,by have:=D.size; simp at this; omega⟩
 .rw[D.cell (p:=⟨w.heap.size,i,none⟩) (by simp),World.cell?_alloc_at _ _ _ _ rfl]
 rw[D.frozen (p:=⟨w.heap.size,i,none⟩) (by simp),World.frozen?_alloc_at _ _ _ _ rfl]
def From(base:Nat)(v:Value):Prop:=∀ad n cap,v = .slice (some ad) n cap->base<=ad.block
abbrev From.mono{base D:Nat}{v:Value}(h:From base v)(J:D<=base):From D v:=λad n cap e=>Nat.le_trans J (h ad n cap e)
abbrev From.off{base b:Nat}{v:Value}(h:From base v)(D:b<base):Off b v:=λad n cap e=>by have:=h ad n cap e; omega
abbrev SL{w:World}{base:Nat}{e:TypeId}{size:Nat}{v:Value}{n:Nat}{xs:List Value}(h:w.ownsRow base e size v n xs):From base v:=by
 intro ad J cap D;subst D;exact(World.ownsRow.lt h ad.block rfl).1
abbrev aem{w w':World}{base b:Nat}{e:TypeId}{size:Nat}{v:Value}{n:Nat}{xs:List Value}(h:w.ownsRow base e size v n xs)(D:Ch b w w')(J:b<base):w'.ownsRow base e size v n xs:=by
 refine h.kept D ?_;have D:=h.lt;cases hv:v.ownBlock with
 | none=>exact .inl rfl
 | some k =>
  right;intro J;have S:=(D k hv).1;simp only[Option.some.injEq]at J;omega
abbrev SN(base:Nat):From base (.sn):=λ_ _ _ e=>by simp at e
open Go.RowKit
variable{α:Type}
abbrev SQ{Q:Nat->α->Prop}(n:Nat)(h:∀i,i<n->∃y,Q i y):∃l:List α,l.length=n∧∀i (h:i<l.length),Q i l[i]:=by
 induction n with
 | zero=>exact⟨[],rfl,λi h=>absurd h (by simp)⟩
 | succ n ih =>
  obtain⟨l,hl,S⟩:=ih λi J=>h i (by omega);obtain⟨y,hy⟩:=h n (by omega);refine⟨l++[y],by simp[hl],λi J=>?_⟩;rcases Nat.lt_or_ge i l.length with D | D
  .rw[List.getElem_append_left D]; exact S i D
  obtain rfl:i=n:=by simp at J; omega
  rw[List.getElem_append_right D]; simpa[hl]using hy
section
variable{H:Type}{enc:TypeId×Value->H}{P:Program}{w:World}{sp:Nat->Bool}{held:Bool}
abbrev cell_lt{a:Addr}{x:Value}(h:w.cell? a=some x):a.block<w.heap.size:=by
 unfold World.cell? at h;rcases Nat.lt_or_ge a.block w.heap.size with h' | h'
 .exact h'
 rw[Array.getElem?_eq_none h']at h; simp at h
abbrev cell_spot{a:Addr}{x:Value}(h:w.cell? a=some x):a.spot=none:=by
 unfold World.cell? at h;split at h
 .cases e:a.spot
  .rfl
  simp[e]at h
 simp at h
abbrev aen{a:Addr}(h:a.spot=none)(n:Nat):a.add n=⟨a.block,a.off+n,none⟩:=by
 obtain⟨b,o,s⟩:=a;simp at h;subst h;unfold Addr.add;split<;>simp_all
abbrev alY{n:Int}(h:(Lit.int .u8 n).wf=true):∃c:UInt8,Value.int .u8 n=gY c:=by
 have D:=bounds_u8 h;exact⟨UInt8.ofNat n.toNat,by congr 1; simp; omega⟩
abbrev aiB{n:Int}(h:(Lit.int .u32 n).wf=true):∃c:UInt32,Value.int .u32 n=bn c:=by
 have D:=bounds_u32 h;exact⟨UInt32.ofNat n.toNat,by congr 1; simp; omega⟩
end
end Go.Proofs.Õ
namespace Go.Rel
section
variable{P:Program}{md:Region.Mode}
def Upon(P:Program)(K:Value->World->Prop):Result Next->Prop
 | .ok (.value u) w'=>K u w'
 | .ok .skip w'=>K undef w'
 | .ok (.enter f args) w'=>Calls P f args w' (λe D=>∃v,e = .returned v∧K v D)
 | _=>False
def Does(P:Program)(o:Oper)(ρ:Operand->Value)(w:World)(K:Value->World->Prop):Prop:=Upon P K ((execOp ρ o).run P w)
abbrev AO{o:Oper}{a:Act}{w:World}{K:Value->World->Prop}{next:Act->World->Prop}{Q:Exit->Act->World->Prop}
  (h:Does P o a.eval w K) (hn:∀v w',K v w'->next (a.put o.dst v) w'):o.wp P a w next Q:=by
 unfold Does at h;unfold Oper.wp;generalize (execOp a.eval o).run P w=r at *;cases r with
 | ok n w' =>
  cases n<;>simp only[Upon]at h<;>simp only[Oper.upon];case value u=>exact hn _ _ h
  case skip=>exact hn _ _ h
  case enter f args=>exact h.mono λe D ⟨v,J,hk⟩=>by subst J; exact hn _ _ hk
 | halt x w'=>simp only[Upon]at h
def valOf(ρ:Operand->Value):Option Tmp->Value
 | none=>undef
 | some d=>ρ (.tmp d)
def kept(o:Oper)(v:Value):Value:=match o.dst with | none=>undef | some _=>v
abbrev Fact:=Value->World->Prop
def top:Fact:=λ_ _=>True
def SS(ops:Array Oper)(Ts:List Fact)(ρ:Operand->Value)(w:World):List Edge->Prop
 | []=>True
 | e::es=>(Region.binds .any e=true->Ts.getD e.on top (valOf ρ ((ops[e.on]?).bind (·.dst))) w)∧SS ops Ts ρ w es
abbrev aiC{ops:Array Oper}{Ts:List Fact}{ρ:Operand->Value}{w:World}(es:List Edge)(h:∀e∈es,Region.binds .any e=true->Ts.getD e.on top (valOf ρ ((ops[e.on]?).bind (·.dst))) w):SS ops Ts ρ w es:=by
 induction es with
 | nil=>trivial
 | cons e es ih=>exact⟨h e (by simp),ih λJ D=>h J (by simp[D])⟩
structure Std (ρ:Operand->Value):Prop where
 const:∀v,ρ (.const v)=v
 global:∀g,ρ (.global g) = .q g 0
 func:∀f,ρ (.func f) = .func (.func f) #[] #[]
abbrev Std.act(a:Act):Std a.eval:=⟨λ_=>rfl,λ_=>rfl,λ_=>rfl⟩
def Out(D:List Oper)(ρ Es:Operand->Value):Prop:=∀t,D.all (λo => !(o.dst==some t))=true->ρ (.tmp t)=Es (.tmp t)
def uq(P:Program)(ops:Array Oper)(D:List Oper)(Ts:List Fact)(R:World->World->Prop)(C:World->Prop)(Es:Operand->Value)(o:Oper)(T:Fact):Prop:=
 ∀ρ w,Std ρ->Out D ρ Es->C w->SS ops Ts ρ w o.after.toList ->
  match o.guard with
  | none=>Does P o ρ w (λv w'=>R w w'∧T (kept o v) w')
  | some (g,b)=>(valOf ρ ((ops[g]?).bind (·.dst)) = .bool b->Does P o ρ w (λv w'=>R w w'∧T (kept o v) w'))∧(valOf ρ ((ops[g]?).bind (·.dst)) ≠ .bool b->T undef w)
def qW(P:Program)(ops:Array Oper)(D:List Oper)(Ts:List Fact)(R:World->World->Prop)(C:World->Prop)(Es:Operand->Value):List Oper->List Fact->Prop
 | [],_=>True
 | _::_,[]=>False
 | o::os,T::Us=>uq P ops D Ts R C Es o T∧qW P ops D Ts R C Es os Us
def End(K:Act->Prop)(w:World):List Oper->List Fact->Act->Prop
 | o::os,T::Us,a=>∀v,T v w->End K w os Us (a.put o.dst v)
 | _,_,a=>K a
theorem lG{ops:Array Oper}{D:List Oper}{Ts:List Fact}{R:World->World->Prop}{C:World->Prop}{Es:Operand->Value} :
  ∀(os:List Oper) (J:List Fact),qW P ops D Ts R C Es os J->os.length<=J.length∧∀(i:Nat) o,os[i]?=some o->uq P ops D Ts R C Es o (J.getD i top)
 | [],_,_=>⟨by simp,λi o h=>by simp at h⟩
 | _::_,[],h=>h.elim
 | o::os,T::J,h=>by
  obtain⟨D,S⟩:=lG os J h.2
  refine⟨by simp; omega,λi J D=>?_⟩
  cases i with
  | zero=>simp only[List.getElem?_cons_zero,Option.some.injEq]at D; subst D; exact h.1
  | succ i=>exact S i J (by simpa using D)
def okB(ops:Array Oper)(n:Nat)(D:Nat):Bool:=
 decide (n<=ops.size) &&
 ((List.range n).all λi=>match ops[i]? with | some o=>o.after.toList.all (λe => !Region.binds .any e||decide (e.on<i)) | none=>false) &&
 ((List.range n).all λi=>(List.range n).all λj=>i==j||(match (ops[i]?).bind (·.dst),(ops[j]?).bind (·.dst)with | some d,some e=>d != e | _,_=>true)) &&
 ((List.range n).all λi=>match (ops[i]?).bind (·.dst)with | some d=>decide (d<D) | none=>true) &&
 (n==ops.size||(Region.sinkB .any ops n&&Region.chainB .any ops n)) &&
 Region.seqB .any ops (ops.size-n) n (List.replicate n true++List.replicate (ops.size-n) false).toArray
variable{ops:Array Oper}{Ts:List Fact}{C:World->Prop}{a0:Act}{n:Nat}
def Old(u:Value)(w:World):Prop:=∃b,u = .q b 0∧b<w.heap.size
abbrev aeo{u:Value}{w:World}(h:Old u w):u ≠ .q w.heap.size 0:=by
 obtain⟨b,rfl,D⟩:=h;intro e;simp only[Value.pointer.injEq,Option.some.injEq,Addr.mk.injEq,and_true]at e;omega
def Als(ops:Array Oper)(Ts:List Fact)(A:List Nat):Prop:=∀i∈A,(∀o,ops[i]?=some o->∃t d,o.op = .alloc t∧o.dst=some d∧o.guard=none)∧∀u w,Ts.getD i top u w->Old u w
def Ir(k:Nat)(C U:World->Prop)(i:Nat)(w:World):Prop:=C w∧(i=k->U w)
abbrev uq.cls{J:List Oper}{R:World->World->Prop}{D:World->Prop}{Es:Operand->Value}{o:Oper}{T:Fact}(h:uq P ops J Ts R C Es o T)(S:∀w,D w->C w):uq P ops J Ts R D Es o T:=λρ w a b c d=>h ρ w a b (S w c) d
structure Inv (ops:Array Oper) (Ts:List Fact) (C:World->Prop) (a0:Act) (n:Nat) (A:List Nat) (k:Nat) (U:World->Prop) (listed:Array Bool) (a:Act) (w:World):Prop where
 defers:a.defers=a0.defers
 size:a.tmps.size=a0.tmps.size
 out:∀t,(∀j o,j<n->ops[j]?=some o->o.dst≠some t)->a.tmps[t]?=a0.tmps[t]?
 fact:∀j o,j<n->ops[j]?=some o->listed.getD j false=true->Ts.getD j top (valOf a.eval o.dst) w
 cls:C w
 apart:∀i∈A,∀j∈A,i≠j->i<n->j<n->∀o1 o2,ops[i]?=some o1->ops[j]?=some o2->listed.getD i false=true->listed.getD j false=true->valOf a.eval o1.dst≠valOf a.eval o2.dst
 unt:listed.getD k false=false->U w
abbrev uw(a:Act)(d:Option Tmp)(v:Value):(a.put d v).tmps.size=a.tmps.size:=by cases d<;>simp[Act.put]
abbrev put_defers(a:Act)(d:Option Tmp)(v:Value):(a.put d v).defers=a.defers:=by cases d<;>rfl
abbrev pG(a:Act)(d:Option Tmp)(v:Value)(t:Tmp)(h:d≠some t):(a.put d v).tmps[t]?=a.tmps[t]?:=by
 cases d with
 | none=>rfl
 | some e =>
  have:e≠t:=λh'=>h (by rw[h']);simp[Act.put,Array.getElem?_setIfInBounds_ne this]
abbrev lH{a b:Act}{t:Tmp}(h:a.tmps[t]?=b.tmps[t]?):a.eval (.tmp t)=b.eval (.tmp t):=by
 simp only[Act.eval,Array.getD_eq_getD_getElem?,h]
abbrev PX(a:Act)(d e:Option Tmp)(v:Value)(h:∀x y,d=some x->e=some y->x≠y):valOf (a.put d v).eval e=valOf a.eval e:=by
 cases e with
 | none=>rfl
 | some y =>
  apply lH;apply pG;intro hd;exact h y y hd rfl rfl
abbrev Iu(a:Act)(o:Oper)(v:Value)(h:∀d,o.dst=some d->d<a.tmps.size):valOf (a.put o.dst v).eval o.dst=kept o v:=by
 unfold kept;cases hd:o.dst with
 | none=>rfl
 | some d =>
  have:=h d hd;simp[valOf,Act.eval,Act.put,this]
abbrev AQ{ops:Array Oper}{a:Act}{o:Oper}{g:Nat}{b:Bool}(D:o.guard=some (g,b)) :
  Region.wanted o (yielded ops a.tmps)=true↔valOf a.eval ((ops[g]?).bind (·.dst)) = .bool b:=by
 unfold Region.wanted yielded;rw[D];simp only[beq_iff_eq];cases hd:(ops[g]?).bind (·.dst)with
 | none=>simp[valOf,undef]
 | some d =>
  simp only[Option.bind_some,valOf,Act.eval,Array.getD_eq_getD_getElem?];cases hv:a.tmps[d]? with
  | none=>simp[undef]
  | some v =>
   simp only[Option.getD_some];cases v<;>simp
structure Ok (ops:Array Oper) (n sz:Nat):Prop where
 le:n<=ops.size
 back:∀i o,i<n->ops[i]?=some o->∀e∈o.after,Region.binds .any e=true->e.on<i
 apart:∀i j,i<n->j<n->i≠j->∀d e,(ops[i]?).bind (·.dst)=some d->(ops[j]?).bind (·.dst)=some e->d≠e
 fits:∀i d,i<n->(ops[i]?).bind (·.dst)=some d->d<sz
 tail:n=ops.size∨(Region.sinkB .any ops n=true∧Region.chainB .any ops n=true)
 seq:Region.seqB .any ops (ops.size-n) n (List.replicate n true++List.replicate (ops.size-n) false).toArray=true
abbrev aep{D:Nat}(h:okB ops n D=true):Ok ops n D:=by
 simp only[okB,Bool.and_eq_true,decide_eq_true_eq,List.all_eq_true,List.mem_range,Bool.or_eq_true,beq_iff_eq]at h;obtain⟨⟨⟨⟨⟨S,h2⟩,h3⟩,h4⟩,h5⟩,h6⟩:=h;refine⟨S,λi o D ho e J hb=>?_,λi j D hj S d e hd J=>?_,λi d D hd=>?_,h5,h6⟩
 .have:=h2 i D;rw[ho]at this;simp only[List.all_eq_true,Bool.or_eq_true,Bool.not_eq_true',decide_eq_true_eq]at this;rcases this e (by simpa using J)with h | h
  .rw[hb]at h; cases h
  exact h
 .rcases h3 i D j hj with h | h
  .exact absurd h S
  rw[hd,J]at h;simpa using h
 have:=h4 i D;rw[hd]at this;simpa using this
abbrev Xc{o:Oper}{ρ:Operand->Value}{w:World}{K:Value->World->Prop}{t:TypeId}(D:o.op = .alloc t)(h:Does P o ρ w K):Does P o ρ w (λv w'=>K v w'∧v = .q w.heap.size 0):=by
 unfold Does at *;have e:(execOp ρ o).run P w=((Instr.alloc t true (.tuple #[])).run P w).andThen (λv w' => .ok (.value v) w'):=by
  unfold execOp;rw[D];simp only[Sem.run_bind];rfl
 rw[e]at h |-;unfold Instr.alloc at *;simp only[Sem.run_bind]at *;cases hz:(zeroValue t).run P w with
 | ok z w1 =>
  obtain rfl:=Go.MapKept.run_zeroValue_world hz;rw[hz]at h;simp[go_sem,Result.andThen,Upon]at h |-;exact h
 | halt x w1=>rw[hz]at h; exact h.elim
abbrev Inv.step{D k:Nat}{A:List Nat}{U:World->Prop}{R:Nat->World->World->Prop}(ok:Ok ops n D)(J:a0.tmps.size=D)(hm:∀(j:Nat) T,Ts[j]?=some T->∀i,i≠j->∀v w w',R i w w'->T v w->T v w')(hC:∀i w w',C w->R i w w'->C w')(hU:∀i w w',i≠k->U w->R i w w'->U w')(hA:Als ops Ts A)
  {D:Array Bool} {a:Act} {w w':World} (ac:D.size=ops.size) (inv:Inv ops Ts C a0 n A k U D a w) {i:Nat} {o:Oper} (hi:i<n) (ho:ops[i]?=some o) {v:Value} (hR:w'=w∨R i w w')
  (hT:Ts.getD i top (kept o v) w') (hF:i∈A->kept o v = .q w.heap.size 0):Inv ops Ts C a0 n A k U (D.setIfInBounds i true) (a.put o.dst v) w':=by
 have same:=Iu a o v (λd hd=>by rw[inv.size,J]; exact ok.fits i d hi (by rw[ho]; exact hd));have J:∀j oj,j<n->ops[j]?=some oj->i≠j->valOf (a.put o.dst v).eval oj.dst=valOf a.eval oj.dst:=λj oj hj aa S =>
  PX a o.dst oj.dst v (λx y hx hy=>ok.apart i j hi hj S x y (by rw[ho]; exact hx) (by rw[aa]; exact hy))
 refine⟨by rw[put_defers]; exact inv.defers,by rw[uw]; exact inv.size,λt ht=>?_,λj oj hj aa hl=>?_,?_,λi1 m1 i2 m2 ab k1 k2 o1 o2 h1 h2 l1 l2=>?_,λhl=>?_⟩
 .rw[pG _ _ _ _ (ht i o hi ho)]; exact inv.out t ht
 .by_cases S:i=j
  .subst S;obtain rfl:o=oj:=Option.some.inj (ho.symm.trans aa);rw[same]; exact hT
  rw[getD_set_ne false S]at hl;have h1:=inv.fact j oj hj aa hl;rw[J j oj hj aa S];rcases hR with rfl | hR
  .exact h1
  by_cases hjl:j<Ts.length
  .have e:Ts.getD j top=Ts[j]:=by simp[List.getD,List.getElem?_eq_getElem hjl]
   rw[e]at h1 |-;exact hm j _ (List.getElem?_eq_getElem hjl) i S _ _ _ hR h1
  have e:Ts.getD j top=top:=by simp[List.getD,List.getElem?_eq_none (Nat.le_of_not_lt hjl)]
  rw[e]; trivial
 .rcases hR with rfl | hR
  .exact inv.cls
  exact hC i _ _ inv.cls hR
 .by_cases e1:i=i1
  .subst e1;obtain rfl:o=o1:=Option.some.inj (ho.symm.trans h1);rw[same,J i2 o2 k2 h2 ab,hF m1];rw[getD_set_ne false ab]at l2;exact(aeo ((hA i2 m2).2 _ _ (inv.fact i2 o2 k2 h2 l2))).symm
  rw[J i1 o1 k1 h1 e1];rw[getD_set_ne false e1]at l1;by_cases e2:i=i2
  .subst e2;obtain rfl:o=o2:=Option.some.inj (ho.symm.trans h2);rw[same,hF m2];exact aeo ((hA i1 m1).2 _ _ (inv.fact i1 o1 k1 h1 l1))
  rw[J i2 o2 k2 h2 e2];rw[getD_set_ne false e2]at l2;exact inv.apart i1 m1 i2 m2 ab k1 k2 o1 o2 h1 h2 l1 l2
 by_cases hik:i=k
 .subst hik;have J:i<D.size:=by rw[ac]; exact(Array.getElem?_eq_some_iff.1 ho).1
  simp[J]at hl
 rw[getD_set_ne false hik]at hl;rcases hR with rfl | hR
 .exact inv.unt hl
 exact hU i _ _ hik (inv.unt hl) hR
def Iw(n:Nat)(D:Array Bool):List Nat:=(List.range n).filter λj => !D.getD j true
abbrev aiD{n i:Nat}{D:Array Bool}(S:i∈Iw n D):(Iw n (D.setIfInBounds i true)).length+1=(Iw n D).length:=by
 have J:(Iw n D).Nodup:=List.Nodup.sublist List.filter_sublist List.nodup_range;have e:Iw n (D.setIfInBounds i true)=(Iw n D).erase i:=by
  rw[J.erase_eq_filter];unfold Iw;rw[List.filter_filter];apply List.filter_congr;intro j J;by_cases hij:i=j
  .subst hij;have hm:=(List.mem_filter.1 S).2;simp only[bne_self_eq_false,Bool.false_and];have J:i<D.size:=by
    rcases Nat.lt_or_ge i D.size with h | h
    .exact h
    simp[Array.getElem?_eq_none h]at hm
   simp[J]
  rw[getD_set_ne true hij];have:(j != i)=true:=by simp; exact λh=>hij h.symm
  rw[this]; simp
 rw[e,List.length_erase_of_mem S];have:0<(Iw n D).length:=List.length_pos_of_mem S;omega
abbrev yT{n i:Nat}{D:Array Bool}:i∈Iw n D↔i<n∧D.getD i true=false:=by
 unfold Iw; rw[List.mem_filter,List.mem_range]; simp
abbrev SV{J:Nat}(ok:Ok ops n J){D:Array Bool}(inv:HeadInv .any ops n D)(h:Iw n D≠[]):∃i,i∈Region.ready .any ops D:=by
 have key:∀m,(∃i,i∈Iw n D∧i<=m)->∃i,i∈Region.ready .any ops D:=by
  intro m;induction m with
  | zero =>
   rintro⟨i,hi,h0⟩;obtain rfl:i=0:=by omega
   obtain⟨h1,h2⟩:=yT.1 hi;have J:0<ops.size:=by have:=ok.le; omega
   have S:ops[0]?=some ops[0]:=by simp[J]
   refine⟨0,mem_ready.2 ⟨h2,_,S,λe he hb=>?_⟩⟩;exact absurd (ok.back 0 _ h1 S e he hb) (by omega)
  | succ m ih =>
   rintro⟨i,hi,h0⟩;by_cases hex:∃i,i∈Iw n D∧i<=m
   .exact ih hex
   obtain⟨h1,h2⟩:=yT.1 hi;have J:i<ops.size:=by have:=ok.le; omega
   have S:ops[i]?=some ops[i]:=by simp[J]
   refine⟨i,mem_ready.2 ⟨h2,_,S,λe he hb=>?_⟩⟩;have J:=ok.back i _ h1 S e he hb;cases hl:D.getD e.on true with
   | false=>exact absurd ⟨e.on,yT.2 ⟨by omega,hl⟩,by omega⟩ hex
   | true =>
    have J:e.on<D.size:=by rw[inv.size]; omega
    simp[J]at hl |-; exact hl
 cases hu:Iw n D with
 | nil=>exact absurd hu h
 | cons i _=>exact key i ⟨i,by simp[hu],Nat.le_refl _⟩
abbrev aiE{D:Array Bool}(hn:n<=ops.size)(inv:HeadInv .any ops n D)(h:Iw n D=[]) :
  D=(List.replicate n true++List.replicate (ops.size-n) false).toArray:=by
 apply Array.ext
 .rw[inv.size]; simp; omega
 intro j S J;have hj:j<ops.size:=by rw[<-inv.size]; exact S
 simp only[List.getElem_toArray,List.getElem_append,List.getElem_replicate,List.length_replicate];split
 .rename_i J;cases hl:D[j]with
  | true=>rfl
  | false =>
   have:j∈Iw n D:=yT.2 ⟨J,by simp[S,hl]⟩;rw[h]at this; cases this
 rename_i J;have:=inv.tail j (by omega) hj;simpa[S]using this
theorem CS{D k:Nat}{A:List Nat}{U:World->Prop}{R:Nat->World->World->Prop}{Q:Exit->Act->World->Prop}(ok:Ok ops n D)(ag:a0.tmps.size=D)(hm:∀(j:Nat) T,Ts[j]?=some T->∀i,i≠j->∀v w w',R i w w'->T v w->T v w')(hC:∀i w w',C w->R i w w'->C w')(hU:∀i w w',i≠k->U w->R i w w'->U w')(hA:Als ops Ts A)
  (ah:∀(i:Nat) o,i<n->ops[i]?=some o->uq P ops (ops.toList.take n) Ts (R i) (Ir k C U i) a0.eval o (Ts.getD i top)) (g:Nat) (hg:g=ops.size-n)
  (aa:∀a w,Inv ops Ts C a0 n A k U (List.replicate n true++List.replicate (ops.size-n) false).toArray a w->wpList P ops Q (ops.toList.drop n) a w) :
  ∀(f:Nat) (D:Array Bool) (a:Act) (w:World),(Iw n D).length=f->HeadInv .any ops n D->Inv ops Ts C a0 n A k U D a w->wpAny P .any ops Q (f+g) D a w
 | 0,D,a,w,hu,hh,inv=>by
  rw[Nat.zero_add]
  have J:Iw n D=[]:=List.eq_nil_of_length_eq_zero hu
  have hl:=aiE ok.le hh J
  subst hl
  have J:(ops.toList.drop n).length=g:=by simp[hg]
  rw[<-J]
  exact wpAny_of_seq (md := .any) (Q':=Q) (ops.toList.drop n) n _ a w (λj=>by simp[List.getElem?_drop]) (by rw[J,hg]; exact ok.seq) (aa a w inv)
 | f+1,D,a,w,hu,hh,inv=>by
  rw[show f+1+g=(f+g)+1 by omega]
  have S:Iw n D≠[]:=λh=>by rw[h]at hu; simp at hu
  obtain⟨i0,J⟩:=SV ok hh S
  refine⟨λh0=>(by rw[h0]at J; cases J),λi hi=>?_⟩
  have J:i<n:=by
   rcases Nat.lt_or_ge i n with h | h
   .exact h
   .rcases ok.tail with ht | ⟨hs,hc⟩
    .obtain⟨_,o,ho,_⟩:=mem_ready.1 hi
     have:=(Array.getElem?_eq_some_iff.1 ho).1
     omega
    .obtain⟨j,hj⟩:=List.exists_mem_of_ne_nil _ S
     obtain⟨ai,al⟩:=yT.1 hj
     have S:n<ops.size:=by
      obtain⟨_,o,ho,_⟩:=mem_ready.1 hi
      have:=(Array.getElem?_eq_some_iff.1 ho).1
      omega
     exact absurd hi (tail_waits hs hc S hh _ j rfl ai al i h)
  obtain⟨ae,o,ho,af⟩:=mem_ready.1 hi
  have S:i∈Iw n D:=yT.2 ⟨J,ae⟩
  have ao:=aiD S
  have ab:Out (ops.toList.take n) a.eval a0.eval:=by
   intro t ht
   apply lH
   apply inv.out
   intro j oj hj an hd
   rw[List.all_eq_true]at ht
   have S:oj∈ops.toList.take n:=by
    rw[List.mem_take_iff_getElem]
    have:=(Array.getElem?_eq_some_iff.1 an)
    obtain⟨h1,h2⟩:=this
    exact⟨j,by simp; omega,by simpa using h2⟩
   have:=ht oj S
   simp[hd]at this
  have Z4:SS ops Ts a.eval w o.after.toList:=by
   apply aiC
   intro e he hb
   have S:e∈o.after:=by simpa using he
   have ap:=ok.back i o J ho e S hb
   have hl:=af e S hb
   have S:e.on<ops.size:=by have:=ok.le; omega
   have ac:ops[e.on]?=some ops[e.on]:=by simp[S]
   have:=inv.fact e.on _ (by omega) ac hl
   rw[ac]
   exact this
  have S:=ah i o J ho a.eval w (Std.act a) ab ⟨inv.cls,λe=>inv.unt (by rw[<-e]; exact getD_both ae)⟩ Z4
  have next:∀v w',(w'=w∨R i w w')->Ts.getD i top (kept o v) w'->(i∈A->kept o v = .q w.heap.size 0)->wpAny P .any ops Q (f+g) (D.setIfInBounds i true) (a.put o.dst v) w':=λv w' D hT hF =>
   CS ok ag hm hC hU hA ah g hg aa f _ _ _ (by omega) (hh.set hi J) (inv.step ok ag hm hC hU hA hh.size J ho D hT hF)
  unfold wpOp
  rw[ho]
  simp only
  cases hgd:o.guard with
  | none =>
   have hw:Region.wanted o (yielded ops a.tmps)=true:=by unfold Region.wanted; rw[hgd]
   rw[hgd]at S
   simp only at S
   rw[if_pos hw]
   by_cases D:i∈A
   .obtain⟨t,d,J,hd,_⟩:=(hA i D).1 o ho
    exact .inl (AO (Xc J S) λv w' hk=>next v w' (.inr hk.1.1) hk.1.2 (λ_=>by unfold kept; rw[hd]; exact hk.2))
   .exact .inl (AO S λv w' hk=>next v w' (.inr hk.1) hk.2 (λh=>absurd h D))
  | some gb =>
   have D:i∉A:=by
    intro D
    obtain⟨t,d,J,hd,am⟩:=(hA i D).1 o ho
    rw[am]at hgd; cases hgd
   obtain⟨J,b⟩:=gb
   rw[hgd]at S
   simp only at S
   by_cases hw:Region.wanted o (yielded ops a.tmps)=true
   .rw[if_pos hw]
    exact .inl (AO (S.1 ((AQ hgd).1 hw)) λv w' hk=>next v w' (.inr hk.1) hk.2 (λh=>absurd h D))
   .rw[if_neg hw]
    have hT:=S.2 (λh=>hw ((AQ hgd).2 h))
    refine next undef w (.inl rfl) ?_ (λh=>absurd h D)
    unfold kept
    cases o.dst<;>exact hT
theorem NM{K:Act->Prop}{w:World}{ρ:Operand->Value}:∀(os:List Oper) (D:List Fact) (b:Act),os.length<=D.length->End K w os D b->(∀(j:Nat) o,os[j]?=some o->D.getD j top (valOf ρ o.dst) w) ->
  K (os.foldl (λa o=>a.put o.dst (valOf ρ o.dst)) b)
 | [],D,b,_,h,_=>by cases D<;>exact h
 | _::_,[],_,hl,_,_=>by simp at hl
 | o::os,T::D,b,hl,h,hf=>by
  refine NM os D _ (by simpa using hl) (h _ (hf 0 o rfl)) λj J S=>?_
  exact hf (j+1) J (by simpa using S)
theorem SX(a:Act):∀(os:List Oper) (b:Act),b.tmps.size=a.tmps.size->(∀o∈os,∀d,o.dst=some d->d<a.tmps.size) ->
  (os.foldl (λc o=>c.put o.dst (valOf a.eval o.dst)) b).defers=b.defers∧(os.foldl (λc o=>c.put o.dst (valOf a.eval o.dst)) b).tmps.size=a.tmps.size ∧
  ∀t,(os.foldl (λc o=>c.put o.dst (valOf a.eval o.dst)) b).tmps[t]?=if (∃o∈os,o.dst=some t)then a.tmps[t]? else b.tmps[t]?
 | [],b,hs,_=>⟨rfl,hs,λt=>by simp⟩
 | o::os,b,hs,hd=>by
  obtain⟨h1,h2,h3⟩:=SX a os (b.put o.dst (valOf a.eval o.dst)) (by rw[uw]; exact hs) (λS D=>hd S (by simp[D]))
  refine⟨by simp only[List.foldl_cons]; rw[h1,put_defers],by simpa using h2,λt=>?_⟩
  simp only[List.foldl_cons]
  rw[h3 t]
  by_cases he:∃S∈os,S.dst=some t
  .rw[if_pos he]
   obtain⟨S,D,J⟩:=he
   rw[if_pos ⟨S,by simp[D],J⟩]
  .rw[if_neg he]
   by_cases ho:o.dst=some t
   .rw[if_pos ⟨o,by simp,ho⟩,ho]
    have aa:t<a.tmps.size:=hd o (by simp) t ho
    have ab:t<b.tmps.size:=hs▸aa
    simp[Act.put,valOf,Act.eval,ab,aa]
   .rw[if_neg,pG _ _ _ _ ho]
    rintro⟨S,D,J⟩
    rcases List.mem_cons.1 D with rfl | h
    .exact ho J
    .exact he ⟨S,h,J⟩
abbrev aiF{l:List Oper}{a D:Act}{w:World}{K:Act->Prop}(ok:Ok l.toArray n a.tmps.size)(J:(l.take n).length<=Ts.length)(h:End K w (l.take n) Ts a)(hd:D.defers=a.defers)(hs:D.tmps.size=a.tmps.size)
  (S:∀(j:Nat) o,(l.take n)[j]?=some o->Ts.getD j top (valOf D.eval o.dst) w) (ho:∀t,(∀j o,j<n->l.toArray[j]?=some o->o.dst≠some t)->D.tmps[t]?=a.tmps[t]?):K D:=by
 have hK:=NM (l.take n) Ts a J h S;have J:∀o∈l.take n,∀d,o.dst=some d->d<D.tmps.size:=by
  intro o ho d hd;rw[hs];obtain⟨j,S⟩:=List.getElem?_of_mem ho;have aa:j<n:=by
   have:=(List.getElem?_eq_some_iff.1 S).1;simp at this; omega
  have ab:l.toArray[j]?=some o:=by rw[List.getElem?_take_of_lt aa]at S; simpa using S
  exact ok.fits j d aa (by rw[ab]; exact hd)
 obtain⟨f1,f2,f3⟩:=SX D (l.take n) a hs.symm J;have J:(l.take n).foldl (λc o=>c.put o.dst (valOf D.eval o.dst)) a=D:=by
  generalize (l.take n).foldl (λc o=>c.put o.dst (valOf D.eval o.dst)) a=b at f1 f2 f3;obtain⟨bt,bd⟩:=b;obtain⟨ac,ad⟩:=D;simp only at f1 f2 f3 hd;have e1:bt=ac:=by
   apply Array.ext_getElem?;intro t;rw[f3 t];split
   .rfl
   rename_i D;refine(ho t λj o S ho hd=>D ⟨o,?_,hd⟩).symm;rw[List.mem_iff_getElem?];exact⟨j,by rw[List.getElem?_take_of_lt S]; simpa using ho⟩
  rw[e1,f1,hd]
 rw[J]at hK;exact hK
abbrev Iy{Q:Exit->Act->World->Prop}{a:Act}{w:World}{l:List Oper}(n:Nat)(hB:okB l.toArray n a.tmps.size=true)
  (R:Nat->World->World->Prop) (C:World->Prop) (A:List Nat) (k:Nat) (U:World->Prop) (Ts:List Fact) (hA:Als l.toArray Ts A) (J:C { w with drawn:=w.drawn+1 }) (af:U { w with drawn:=w.drawn+1 }) (hC:∀i w w',C w->R i w w'->C w') (hU:∀i w w',i≠k->U w->R i w w'->U w') (hm:∀(j:Nat) T,Ts[j]?=some T->∀i,i≠j->∀v w w',R i w w'->T v w->T v w')
  (ag:∀(i:Nat) o,i<n->l[i]?=some o->uq P l.toArray (l.take n) Ts (R i) (Ir k C U i) a.eval o (Ts.getD i top))
  (ab:∀S w',C w'->S.defers=a.defers->S.tmps.size=a.tmps.size->(∀(j:Nat) o,(l.take n)[j]?=some o->Ts.getD j top (valOf S.eval o.dst) w')->(∀t,(∀j o,j<n->l.toArray[j]?=some o->o.dst≠some t)->S.tmps[t]?=a.tmps[t]?) ->
   (∀i∈A,∀j∈A,i≠j->i<n->j<n->∀o1 o2,l.toArray[i]?=some o1->l.toArray[j]?=some o2->valOf S.eval o1.dst≠valOf S.eval o2.dst)->wpList P l.toArray Q (l.drop n) S w') :
  wpAny P .any l.toArray Q l.toArray.size (Array.replicate l.toArray.size false) a { w with drawn:=w.drawn+1 }:=by
 have ok:=aep hB;have D:n<=l.length:=by have:=ok.le; simpa using this
 have D:HeadInv .any l.toArray n (Array.replicate l.toArray.size false):=
  ⟨by simp,λj oj _ hl=>(by rw[getD_replicate_false]at hl; cases hl),λt _ ht=>getD_in (by simpa using ht) (getD_replicate_false _ _)⟩
 have aa:Inv l.toArray Ts C a n A k U (Array.replicate l.toArray.size false) a { w with drawn:=w.drawn+1 }:=
  ⟨rfl,rfl,λ_ _=>rfl,λj o _ _ hl=>(by rw[getD_replicate_false]at hl; cases hl),J,λ_ _ _ _ _ _ _ _ _ _ _ hl=>(by rw[getD_replicate_false]at hl; cases hl),λ_=>af⟩
 have ac:(Iw n (Array.replicate l.toArray.size false)).length=n:=by
  have:Iw n (Array.replicate l.toArray.size false)=List.range n:=by
   unfold Iw;rw[List.filter_eq_self];intro j J;have ae:j<l.length:=by have:=List.mem_range.1 J; omega
   simp[ae]
  rw[this,List.length_range]
 have H:=CS (P:=P) (Q:=Q) ok rfl hm hC hU hA (λi o hi ho=>ag i o hi (by simpa using ho)) (l.toArray.size-n) rfl (λS w' inv=>?_) n _ a _ ac D aa
 .rw[show n+(l.toArray.size-n)=l.toArray.size by simp; omega]at H;exact H
 have D:∀j,j<n->(List.replicate n true++List.replicate (l.length-n) false).toArray.getD j false=true:=λj J=>by
  have e:(List.replicate n true++List.replicate (l.length-n) false)[j]?=some true:=by
   rw[List.getElem?_append_left (by simpa using J),List.getElem?_replicate,if_pos J]
  simp[e]
 refine ab S w' inv.cls inv.defers inv.size (λj o J=>?_) inv.out λi hi j J S k1 k2 o1 o2 h1 h2=>inv.apart i hi j J S k1 k2 o1 o2 h1 h2 (D i k1) (D j k2);have S:j<n:=by
  have:=(List.getElem?_eq_some_iff.1 J).1;simp at this; omega
 exact inv.fact j o S (by rw[List.getElem?_take_of_lt S]at J; simpa using J) (D j S)
abbrev CU{ops:Array Oper}{Ts:List Fact}:Als ops Ts []:=λ_ h=>by cases h
abbrev wp_region{id:Nat}{Q:Exit->Act->World->Prop}{a:Act}{w:World}{l:List Oper}(n:Nat)(aa:P.follows .mixedOrders=true)(hB:okB l.toArray n a.tmps.size=true)
  (R:World->World->Prop) (C:World->Prop) (Ts:List Fact) (ab:C { w with drawn:=w.drawn+1 }) (hC:∀w w',C w->R w w'->C w') (hm:∀T∈Ts,∀v w w',R w w'->T v w->T v w')
  (ac:qW P l.toArray (l.take n) Ts R C a.eval (l.take n) Ts) (S:∀w',C w'->End (λa'=>wpList P l.toArray Q (l.drop n) a' w') w' (l.take n) Ts a) :
  (Code.region id l.toArray true).wp P Q a w:=by
 obtain⟨D,J⟩:=lG _ _ ac;exact wp_region_any aa (Iy n hB (λ_=>R) C [] 0 (λ_=>True) Ts CU ab trivial (λ_=>hC) (λ_ _ _ _ _ _=>trivial) (λj T hT i _=>hm T (List.mem_of_getElem? hT))
  (λi o hi ho=>(J i o (by rw[List.getElem?_take_of_lt hi]; exact ho)).cls λ_ h=>h.1) λa' w' J hd hs hf ho _=>aiF (K:=λa'=>wpList P l.toArray Q (l.drop n) a' w') (aep hB) D (S w' J) hd hs hf ho)
def is(c:Value):Fact:=λv _=>v=c
def aiG(R:World->World->Prop)(T:Fact):Prop:=∀v w w',R w w'->T v w->T v w'
abbrev aA{R:World->World->Prop}(c:Value):aiG R (is c):=λ_ _ _ _ h=>h
def CV(R:World->World->Prop):List Fact->Prop
 | []=>True
 | T::Ts=>aiG R T∧CV R Ts
abbrev CV.mem{R:World->World->Prop}:∀{Ts:List Fact},CV R Ts->∀T∈Ts,∀v w w',R w w'->T v w->T v w'
 | _::_,h,T,D=>by
  rcases List.mem_cons.1 D with rfl | D
  .exact h.1
  .exact CV.mem h.2 T D
end
end Go.Rel
namespace Go.qX
open Go.Rel
section
variable{P:Program}{md:Region.Mode}
abbrev uq (P:Program)(ops:Array Oper)(D:List Oper)(Ts:List Fact)(R:World->World->Prop)(C:World->Prop)(Es:Operand->Value)(o:Oper)(T:Fact):Prop:=Rel.uq P ops D Ts R C Es o T
abbrev Ir:=@Rel.Ir
def qW(P:Program)(ops:Array Oper)(D:List Oper)(Ts:List Fact)(R:Nat->World->World->Prop)(C:Nat->World->Prop)(Es:Operand->Value):Nat->List Oper->List Fact->Prop
 | _,[],_=>True
 | _,_::_,[]=>False
 | i,o::os,T::Us=>uq P ops D Ts (R i) (C i) Es o T∧qW P ops D Ts R C Es (i+1) os Us
theorem lG{ops:Array Oper}{D:List Oper}{Ts:List Fact}{R:Nat->World->World->Prop}{C:Nat->World->Prop}{Es:Operand->Value} :
  ∀(os:List Oper) (J:List Fact) (k:Nat),qW P ops D Ts R C Es k os J->os.length<=J.length∧∀(i:Nat) o,os[i]?=some o->uq P ops D Ts (R (k+i)) (C (k+i)) Es o (J.getD i top)
 | [],_,_,_=>⟨by simp,λi o h=>by simp at h⟩
 | _::_,[],_,h=>h.elim
 | o::os,T::J,k,h=>by
  obtain⟨D,S⟩:=lG os J (k+1) h.2
  refine⟨by simp; omega,λi J D=>?_⟩
  cases i with
  | zero=>simp only[List.getElem?_cons_zero,Option.some.injEq]at D; subst D; exact h.1
  | succ i =>
   have:=S i J (by simpa using D)
   rw[show k+(i+1)=k+1+i by omega]
   exact this
def But(k:Nat)(R S:World->World->Prop)(i:Nat):World->World->Prop:=if i=k then S else R
def lI(k:Nat)(R S:World->World->Prop):Nat->List Fact->Prop
 | _,[]=>True
 | j,T::Ts=>aiG R T∧(j≠k->aiG S T)∧lI k R S (j+1) Ts
abbrev lI.get{k:Nat}{R S:World->World->Prop}:∀{Ts:List Fact} {m:Nat},lI k R S m Ts->∀(j:Nat) T,Ts[j]?=some T->∀i,i≠m+j->∀v w w',But k R S i w w'->T v w->T v w'
 | T0::Ts,m,h,j,T,hT,i,hij,v,w,w',hR,hv=>by
  cases j with
  | zero =>
   simp only[List.getElem?_cons_zero,Option.some.injEq]at hT
   subst hT
   unfold But at hR
   split at hR
   .rename_i e; subst e; exact h.2.1 (λe=>hij (by omega)) v w w' hR hv
   .exact h.1 v w w' hR hv
  | succ j=>exact lI.get h.2.2 j T (by simpa using hT) i (by omega) v w w' hR hv
abbrev lI.mem{k:Nat}{R S:World->World->Prop}{Ts:List Fact}(h:lI k R S 0 Ts):∀(j:Nat) T,Ts[j]?=some T->∀i,i≠j->∀v w w',But k R S i w w'->T v w->T v w':=
 λj T D i J=>lI.get h j T D i (by omega)
abbrev aer{k i:Nat}{R S:World->World->Prop}(h:i≠k):But k R S i=R:=if_neg h
end
end Go.qX
namespace Go.Proofs.Õ
open Go.RowKit
abbrev _root_.Go.Ï(w:World)(v:Value):Ending->World->Prop:=λe w'=>e = .returned v∧Ext w w'
abbrev _root_.And.A{v0 v1 v2 v3 v4 v5:Prop}(h:v0∧v1∧v2∧v3∧v4∧v5):v4:=h.2.2.2.2.1
abbrev _root_.And.C{v0 v1 v2 v3 v4:Prop}(h:v0∧v1∧v2∧v3∧v4):v3:=h.2.2.2.1
abbrev _root_.And.D{v0 v1 v2 v3:Prop}(h:v0∧v1∧v2∧v3):v2:=h.2.2.1
abbrev _root_.And.F{v0 v1 v2:Prop}(h:v0∧v1∧v2):v2:=h.2.2
abbrev _root_.And.G{v0 v1 v2 v3 v4 v5 v6 v7 v8:Prop}(h:v0∧v1∧v2∧v3∧v4∧v5∧v6∧v7∧v8):v7:=h.2.2.2.2.2.2.2.1
abbrev _root_.And.H{v0 v1 v2 v3 v4 v5 v6 v7 v8 v9 v10 v11 v12:Prop}(h:v0∧v1∧v2∧v3∧v4∧v5∧v6∧v7∧v8∧v9∧v10∧v11∧v12):v11:=h.2.2.2.2.2.2.2.2.2.2.2.1
abbrev _root_.And.I{v0 v1 v2 v3 v4 v5 v6 v7 v8 v9:Prop}(h:v0∧v1∧v2∧v3∧v4∧v5∧v6∧v7∧v8∧v9):v9:=h.2.2.2.2.2.2.2.2.2
abbrev _root_.And.J{v0 v1 v2 v3 v4 v5:Prop}(h:v0∧v1∧v2∧v3∧v4∧v5):v5:=h.2.2.2.2.2
abbrev _root_.And.K{v0 v1 v2 v3 v4 v5 v6 v7 v8 v9 v10:Prop}(h:v0∧v1∧v2∧v3∧v4∧v5∧v6∧v7∧v8∧v9∧v10):v9:=h.2.2.2.2.2.2.2.2.2.1
abbrev _root_.And.N{v0 v1 v2 v3:Prop}(h:v0∧v1∧v2∧v3):v3:=h.2.2.2
abbrev _root_.And.O{v0 v1 v2 v3 v4:Prop}(h:v0∧v1∧v2∧v3∧v4):v4:=h.2.2.2.2
abbrev _root_.And.P{v0 v1 v2 v3 v4 v5 v6 v7 v8 v9 v10 v11 v12 v13:Prop}(h:v0∧v1∧v2∧v3∧v4∧v5∧v6∧v7∧v8∧v9∧v10∧v11∧v12∧v13):v12:=h.2.2.2.2.2.2.2.2.2.2.2.2.1
abbrev _root_.And.Q{v0 v1 v2 v3 v4 v5 v6 v7 v8 v9 v10 v11:Prop}(h:v0∧v1∧v2∧v3∧v4∧v5∧v6∧v7∧v8∧v9∧v10∧v11):v10:=h.2.2.2.2.2.2.2.2.2.2.1
abbrev _root_.And.S{v0 v1 v2 v3 v4 v5 v6:Prop}(h:v0∧v1∧v2∧v3∧v4∧v5∧v6):v5:=h.2.2.2.2.2.1
abbrev _root_.And.T{v0 v1 v2 v3 v4 v5 v6 v7 v8 v9:Prop}(h:v0∧v1∧v2∧v3∧v4∧v5∧v6∧v7∧v8∧v9):v8:=h.2.2.2.2.2.2.2.2.1
abbrev _root_.And.U{v0 v1 v2 v3 v4 v5 v6 v7:Prop}(h:v0∧v1∧v2∧v3∧v4∧v5∧v6∧v7):v6:=h.2.2.2.2.2.2.1
abbrev _root_.And.V{v0 v1 v2 v3 v4 v5 v6 v7 v8 v9 v10 v11 v12 v13 v14 v15 v16 v17 v18 v19:Prop}(h:v0∧v1∧v2∧v3∧v4∧v5∧v6∧v7∧v8∧v9∧v10∧v11∧v12∧v13∧v14∧v15∧v16∧v17∧v18∧v19):v18:=h.2.2.2.2.2.2.2.2.2.2.2.2.2.2.2.2.2.2.1
