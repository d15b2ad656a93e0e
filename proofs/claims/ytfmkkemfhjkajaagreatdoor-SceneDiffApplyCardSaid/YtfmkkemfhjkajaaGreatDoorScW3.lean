/- Package scene: rows of nodes made anew. -/
import Derived.Test.YtfmkkemfhjkajaaGreatDoorPk37
set_option maxHeartbeats 3200000
set_option maxRecDepth 100000
namespace Go.Proofs.YtfmkkemfhjkajaaGreatDoor
open Go.RowKit
variable{α:Type}{K:Nat}
set_option linter.unusedVariables false
theorem tyNode:SliceTy Tryz.prog 24 43 (.agg nodeD0.cells.toArray) 47 656:=⟨Tryz.underlying24,info_parts (by kernel_rfl),rfl,by decide⟩
theorem raw_anyNode{w:World}{v:Value}{L:List NodeD}(h:IsRowN 47 NodeD.cells w v L):RawRow w 47 v L.length (L.flatMap NodeD.cells):=Sx.raw_rowN h (fun _=>rfl) fun _=>rfl
theorem okT_le{base b0:Nat}{n:NodeD}{w:World}(h:n.okT base w)(hb:b0≤base):n.okT b0 w:=⟨h.1,h.2.1.le hb,h.2.2.1.le hb,h.2.2.2.1.le hb,h.2.2.2.2.1.le hb,h.2.2.2.2.2.1.le hb,h.2.2.2.2.2.2.1.le hb,h.2.2.2.2.2.2.2.le hb⟩
/-- Nodes in memory from base on. -/
def NodesT(base:Nat)(v:Value)(l:List NodeD)(w:World):Prop:=Sx.RowT 43 47 NodeD.cells base v l w∧∀n∈l,n.okT base w
abbrev CpNodes (base:Nat)(v:Value)(l:List NodeD)(w:World):Prop:=Sx.Dep base (NodesT base v l) w
/-- A scene whose row of nodes is the walk's own. -/
structure SceneD.own (base:Nat) (m:SceneD) (w:World):Prop where
 row:w.ownsRow base 43 47 m.s m.ns.length (m.ns.flatMap NodeD.cells)
 nodes:Sx.On (fun i=>base≤i∧m.s.ownBlock≠some i) (fun W=>∀n∈m.ns,n.okT base W) w
theorem SceneD.own.cp{base:Nat}{m:SceneD}{w:World}(h:m.own base w):CpNodes base m.s m.ns w:=Sx.On.and (Sx.own_rowT (fun _=>rfl) h.row rfl rfl) (h.nodes.mono fun _ h=>h.1)
theorem CpNodes.ok{base:Nat}{v:Value}{l:List NodeD}{w:World}(h:CpNodes base v l w)(hf:∀n∈l,n.fitK K):IsNodes K w v l:=⟨(Sx.On.self h).1.1,fun n hn=>⟨((Sx.On.self h).2 n hn).1,hf n hn⟩⟩
theorem CpNodes.le{base b0:Nat}{v:Value}{l:List NodeD}{w:World}(h:CpNodes base v l w)(hb:b0≤base):CpNodes b0 v l w:=Sx.On.imp (Sx.Dep.le h hb) fun _ h=>⟨h.1.le hb,fun n hn=>okT_le (h.2 n hn) hb⟩
theorem okT_all_snoc{P:NodeD→Prop}{M:List NodeD}{x:NodeD}(h:∀p∈M,P p)(hx:P x):∀p∈M++[x],P p:=fun p hp=>by
 rcases List.mem_append.1 hp with hp | hp
 ·exact h p hp
 ·rw[List.mem_singleton.1 hp]; exact hx
theorem nstrip_snoc{l M:List NodeD}{k:Nat}{x y:NodeD}(hk:k<l.length)(hx:l[k]=x)(h:M.map NodeD.strip=(l.take k).map NodeD.strip)(hy:y.strip=x.strip):(M++[y]).map NodeD.strip=(l.take (k+1)).map NodeD.strip:=by
 rw[List.take_succ_eq_append_getElem hk,List.map_append,List.map_append,h,hx]; simp[hy]
theorem rowN_take'{w:World}{a:Option Addr}{L:List NodeD}{c i:Nat}(h:IsRowN 47 NodeD.cells w (.slice a L.length c) L)(hi:i≤L.length):IsRowN 47 NodeD.cells w (.slice (Sx.slA a 0 i 47) i i) (L.take i):=Sx.rowN_take h hi (Nat.le_trans hi (Sx.rowN_cap h))
theorem raw_take{w:World}{a:Option Addr}{L:List NodeD}{c i:Nat}(h:IsRowN 47 NodeD.cells w (.slice a L.length c) L)(hi:i≤L.length):RawRow w 47 (.slice (Sx.slA a 0 i 47) i i) i ((L.take i).flatMap NodeD.cells):=by
 have:=raw_anyNode (rowN_take' h hi)
 rwa [List.length_take,Nat.min_eq_left hi]at this
theorem raw_drop{w:World}{a:Option Addr}{L:List NodeD}{c i:Nat}(h:IsRowN 47 NodeD.cells w (.slice a L.length c) L)(hi:i≤L.length):RawRow w 47 (.slice (Sx.slA a i c 47) (L.length-i) (c-i)) (L.length-i) ((L.drop i).flatMap NodeD.cells):=by
 have:=raw_anyNode (Sx.rowN_drop h hi (Sx.rowN_cap h))
 rwa [List.length_drop]at this
theorem scInsert_any{w:World}{vl vm:Value}{L M:List NodeD}(hl:IsRowN 47 NodeD.cells w vl L)(hm:IsRowN 47 NodeD.cells w vm M){i:Nat}(hi:i≤L.length)(hM0:0<M.length)(hn:L.length+M.length≤100000){z:Int}(hz:z=(i:Int)) :
  Calls Tryz.prog 81 #[vl,.int .i64 z,vm] w fun e w'=>∃v',e = .returned v'∧w'.ownsRow w.heap.size 43 47 v' (L.take i++M++L.drop i).length ((L.take i++M++L.drop i).flatMap NodeD.cells)∧Ext w w':=by
 subst hz
 obtain⟨a,cap,rfl⟩:=hl.shape
 have hlc:=Sx.rowN_cap hl
 have hic:i≤cap:=Nat.le_trans hi hlc
 refine Sx.enter Tryz.func81 Tryz.ntmps81 fun ac S=>Sx.seqP fun _ κ1=>Sx.run S 1 [] [(6,.slice none 0 0)] fun ac S=>Sx.done<|κ1 _ _<|Sx.seqP fun _ κ2=>Sx.run S 5 [.slc 0 i i cap] [(7,.slice (Sx.slA a 0 i 47) i i)] (hk:=⟨⟨Nat.zero_le _,Nat.le_refl _,hic⟩,trivial⟩) fun ac S=>Sx.done<|κ2 _ _<|wp_seq_k (fun _ κ3=>?_)
 refine Sx.drawX S 6 [(14,fun v w1=>w1.ownsRow w.heap.size 43 47 v (i+M.length) ((L.take i++M).flatMap NodeD.cells))] (fun r=>[.hand 14 [(12,.slice (Sx.slA a 0 i 47) i i),(13,vm)],.slc i L.length cap cap]) (fun x=>[x 14]) (fun x=>[]) [] (fun x=>[(14,x 14),(17,.slice (Sx.slA a i cap 47) (L.length-i) (cap-i))]) ⟨fun _ _ _ k h=>Sx.ownsRow_ext h k,trivial⟩ (fun x=>trivial) (fun ac u x E4 F S=>?_) (hk:=fun r=>⟨trivial,⟨hi,hlc,Nat.le_refl _⟩,trivial⟩) (hl:=[(2,[])]) (hH:=fun x r=>⟨fun o ho ρ u hs hE hρ hV F=>by exact Sx.does_app ho tyNode (hV (12,_) List.mem_cons_self) (hV (13,_) (List.mem_cons_of_mem _ List.mem_cons_self)) (raw_take (hl.below (Ext.trans' S.E hE)) hi) (raw_anyNode (hm.below (Ext.trans' S.E hE))) hM0 (by show i+M.length≤9223372036854775807; omega) (by omega) (fun v' w' h hE2=>Sx.hp_of ho rfl rfl hE2 (by rw[←List.flatMap_append]at h; exact Sx.ownsRow_base h (Ext.trans' S.E hE).size)),trivial⟩)
 obtain⟨F14,-⟩:=F
 have R:=(Sx.Rw.nil S).add (r:=⟨43,47,_,i+M.length,(L.take i++M).flatMap NodeD.cells⟩) F14 (fun b hb=>by cases hb) (Nat.le_refl _)
 obtain⟨a1,c1,e1⟩:=Sx.own_shape F14
 rw[e1]at S R
 refine Sx.app S R 0 18 rfl tyNode (raw_drop (hl.below S.E) hi) (by show i+M.length+(L.length-i)≤9223372036854775807; omega) (by show(i+M.length+(L.length-i))*656≤140737488355328; omega) fun ac u v5 X6 R S=>Sx.run S 1 [] [(6,v5)] fun ac S=>Sx.done<|κ3 _ _<|Vp.rt ?_
 refine Sx.ret1 S Tryz.results81 ?_
 have ho:=R.own _ List.mem_cons_self
 rw[←List.flatMap_append]at ho
 exact⟨_,rfl,by rw[show(L.take i++M++L.drop i).length=i+M.length+(L.length-i) by simp; omega]; exact ho,S.E⟩
theorem split_app{w u:World}{os:List Oper}{i:Nat}{o:Oper}{ρ:Operand→Value}(ho:os[i]?=some o){a:Option Addr}{L:List NodeD}{cap f t:Nat}(hs:ρ (.tmp 13) = .slice (Sx.slA a 0 f 47) f f)(hx:ρ (.tmp 16) = .slice (Sx.slA a t cap 47) (L.length-t) (cap-t))
  (hl:IsRowN 47 NodeD.cells w (.slice a L.length cap) L) (hft:f<t) (ht:t≤L.length) (hn:L.length≤100000) (hE:Ext w u) {Post:Value→World→Prop} (hK:∀v w',Ext u w'→(∀base B,base≤w.heap.size→Sx.On B (Sx.RowT 43 47 NodeD.cells base (.slice a L.length cap) L) w→Sx.On (fun i=>B i∨w.heap.size≤i) (Sx.RowT 43 47 NodeD.cells base v (L.take f++L.drop t)) w')→Post v w') (hop:Sx.appAt os i=some (.tmp 13,.tmp 16,24,true):=by kernel_rfl) :
  Rel.Does Tryz.prog o ρ u Post:=by
 have hlc:=Sx.rowN_cap hl
 rcases Nat.lt_or_ge t L.length with h | h
 ·have hlen:(L.take f++L.drop t).length=f+(L.length-t):=by simp; omega
  refine Sx.does_app ho tyNode hs hx (raw_take (hl.below hE) (by omega)) (raw_drop (hl.below hE) ht) (by omega) (by show f+(L.length-t)≤9223372036854775807; omega) (by omega) (fun v' w' h hE2=>hK v' w' hE2 fun base B hb hd=>?_) hop
  rw[←List.flatMap_append]at h
  exact Sx.On.imp (Sx.On.mono (Sx.own_rowT (f:=NodeD.cells) (fun _=>rfl) h hlen.symm rfl) fun i hi => .inr (Nat.le_trans hE.size hi)) fun _ h=>h.le (Nat.le_trans hb hE.size)
 ·have e1:L.length-t=0:=by omega
  rw[e1]at hx
  refine Sx.does_app0 ho tyNode (Nat.le_refl f) hs hx (hK _ _ Ext.rfl' fun base B hb hd=>?_) hop
  rw[List.drop_eq_nil_of_le h,List.append_nil,Sx.slA_zero]
  exact Sx.On.imp (Sx.On.mono (Sx.On.ext hd hE) fun _ h => .inl h) fun _ h=>Sx.rowT_slice h (by omega) (Nat.le_refl f) (by omega)
theorem scSplit_any{w:World}{a:Option Addr}{cap:Nat}{L:List NodeD}(hl:IsRowN 47 NodeD.cells w (.slice a L.length cap) L){f t:Nat}(hft:f<t)(ht:t≤L.length)(hn:L.length≤100000){z:Int}(hz:z=(f:Int)) :
  Calls Tryz.prog 82 #[.slice a L.length cap,.int .i64 z,.int .i64 ((t:Nat):Int)] w fun e w'=>∃v1,e = .returned (.tuple #[v1,.slice (Sx.slA a f t 47) (t-f) (t-f)])∧(∀base B,base≤w.heap.size→Sx.On B (Sx.RowT 43 47 NodeD.cells base (.slice a L.length cap) L) w→Sx.On (fun i=>B i∨w.heap.size≤i) (Sx.RowT 43 47 NodeD.cells base v1 (L.take f++L.drop t)) w')∧Ext w w':=by
 subst hz
 have hlc:=Sx.rowN_cap hl
 refine Sx.enter Tryz.func82 Tryz.ntmps82 fun ac S=>Sx.seqP fun _ κ1=>Sx.run S 2 [] [(6,.slice none 0 0),(7,.slice none 0 0)] fun ac S=>Sx.done<|κ1 _ _<|Sx.seqP fun _ κ2=>Sx.run S 5 [.slc 0 f f cap] [(8,.slice (Sx.slA a 0 f 47) f f)] (hk:=⟨⟨Nat.zero_le _,Nat.le_refl _,by omega⟩,trivial⟩) fun ac S=>Sx.done<|κ2 _ _<|wp_seq_k (fun _ κ3=>?_)
 refine Sx.drawX S 11 [(17,fun v w1=>∀base B,base≤w.heap.size→Sx.On B (Sx.RowT 43 47 NodeD.cells base (.slice a L.length cap) L) w→Sx.On (fun i=>B i∨w.heap.size≤i) (Sx.RowT 43 47 NodeD.cells base v (L.take f++L.drop t)) w1),(6,fun v w1=>∀base B,base≤w.heap.size→Sx.On B (Sx.RowT 43 47 NodeD.cells base (.slice a L.length cap) L) w→Sx.On (fun i=>B i∨w.heap.size≤i) (Sx.RowT 43 47 NodeD.cells base v (L.take f++L.drop t)) w1)] (fun r=>[.slc t L.length cap cap,.hand 17 [(13,.slice (Sx.slA a 0 f 47) f f),(16,.slice (Sx.slA a t cap 47) (L.length-t) (cap-t))],.slc f t t cap,.hand 6 []]) (fun x=>[x 17,x 6]) (fun x=>[]) [] (fun x=>[(6,x 6),(22,.slice (Sx.slA a f t 47) (t-f) (t-f))]) ⟨fun _ _ _ k h base B hb hd=>Sx.On.ext (h base B hb hd) k,fun _ _ _ k h base B hb hd=>Sx.On.ext (h base B hb hd) k,trivial⟩ (fun x=>trivial) (fun ac u x E4 F S=>?_) (hk:=fun r=>⟨⟨ht,hlc,Nat.le_refl _⟩,trivial,⟨by omega,Nat.le_refl _,by omega⟩,trivial,trivial⟩) (hl:=[(4,[]),(10,[17])]) (hH:=fun x r=>⟨fun o ho ρ u hs hE hρ hV F=>by exact split_app ho (hV (13,_) List.mem_cons_self) (hV (16,_) (List.mem_cons_of_mem _ List.mem_cons_self)) hl hft ht hn (Ext.trans' S.E hE) (fun v' w' hE2 h=>Sx.hp_of ho rfl rfl hE2 h),fun o ho ρ u hs hE hρ hV F=>by obtain⟨F17,-⟩:=F; exact Sx.does_ev ho hs [(17,x 17)] (Sx.look1 (hρ 17 (by decide) rfl)) (x 17) (Sx.hp_of ho rfl rfl Ext.rfl' F17),trivial⟩)
 obtain⟨F17,F6,-⟩:=F
 refine Sx.run S 1 [] [(7,.slice (Sx.slA a f t 47) (t-f) (t-f))] fun ac S=>Sx.done<|κ3 _ _<|Vp.rt ?_
 refine Sx.ret2 S Tryz.results82 ?_
 exact⟨_,rfl,F6,S.E⟩
theorem nrow_nil{w0 w:World}{bl:List (Nat×List Value)}(R:Sx.Rw w0 w bl []):Sx.Rw w0 w bl [⟨43,47,.slice none 0 0,0,[]⟩]:=
 ⟨fun r hr=>by obtain rfl:=List.mem_singleton.1 hr; exact⟨rfl,.inl ⟨rfl,rfl⟩⟩,R.lt,R.apart⟩
theorem _root_.Go.Sx.On.fresh{B:Nat→Prop}{F:World→Prop}{w w':World}{b:Nat}(h:Sx.On B F w)(hE:Ext w w')(hb:w.heap.size≤b):Sx.On (fun i=>B i∧i≠b) F w':=fun w2 hs hk =>
 h w2 (Nat.le_trans hE.size hs) fun k hk1 hk2=>(hk k (Nat.lt_of_lt_of_le hk1 hE.size) ⟨hk2,by omega⟩).trans (hE.block k hk1)
theorem _root_.Go.Sx.ow_new{w0 w:World}{b:Nat}{A:List Value}{bl:List (Nat×List Value)}{rs:List Sx.Row}{F:World→Prop}{B0:Nat}(R:Sx.Rw w0 w ((b,A)::bl) rs)(h:Sx.On (fun i=>B0≤i∧i≠b) F w)(q1:∀k∈Sx.Ob bl rs,k<B0)(q0:w0.heap.size≤B0):Sx.Ow w0.heap.size (Sx.Ob ((b,A)::bl) rs) F w:=
 h.mono fun k hk=>⟨Nat.le_trans q0 hk.1,fun hm=>(List.mem_cons.1 hm).elim (fun e=>hk.2 e) fun hm=>by have:=q1 k hm; omega⟩
theorem _root_.Go.Sx.NewP.base{b0 b1:Nat}{A:List Value}{sh:Option Nat}{v:Value}{w:World}(h:Sx.NewP b1 A sh v w)(hb:b0≤b1):Sx.NewP b0 A sh v w:=by
 obtain⟨b,e,h1,h2⟩:=h
 exact⟨b,e,Nat.le_trans hb h1,h2⟩
theorem scClone_any{w:World}{s:SceneD}(h:SceneOk K w s)(hlim:∀n∈s.ns,n.lim)(hn:s.ns.length≤100000) :
  Calls Tryz.prog 26 #[s.v] w fun e w'=>∃m:SceneD,e = .returned m.v∧m.own w.heap.size w'∧m.ns.map NodeD.strip=s.ns.map NodeD.strip∧m.w=s.w∧m.h=s.h∧m.bg=s.bg∧Ext w w':=by
 have hmax:s.ns.length≤9223372036854775807:=by omega
 refine Sx.enter Tryz.func26 Tryz.ntmps26 (fun ac S=>?_)
 obtain⟨a,cap,es⟩:∃a c,s.s = .slice a s.ns.length c:=⟨_,_,rfl⟩
 have hr:=h.2.2.1
 rw[es]at hr
 refine Sx.seqP fun _ κ1=>Sx.newp S 1 s.cells fun ac u b2 E3 hb4 S=>Sx.newp S 2 [.int .i64 0,.int .i64 0,.int .u8 0,.int .u8 0,.int .u8 0,.int .u8 0,.slice none 0 0] fun ac u b5 E6 hb7 S=>Sx.done<|κ1 _ _<|Sx.seqP fun _ κ8=>Sx.run S 1 [.mem 1 0] [(6,s.v)] fun ac S=>Sx.newp S 3 [.int .i64 0,.int .i64 0,.int .u8 0,.int .u8 0,.int .u8 0,.int .u8 0,.slice none 0 0] fun ac u b9 E10 hb11 S=>Sx.store S 0 (off:=0) (cs:=s.cells) rfl fun u C12 S=>Sx.done<|κ8 _ _<|Sx.seqP fun _ κ13=>Sx.run S 1 [] [(7,.pointer (some ⟨b9,6,none⟩))] fun ac S=>Sx.store1 S 0 (off:=6) (v := .slice none 0 0) rfl fun u C14 S=>Sx.done<|κ13 _ _<|wp_seq_k fun _ κ15=>Sx.seqP fun _ κ16=>Sx.run S 4 [.mem 2 6,.re 9 s.s (.slice a s.ns.length cap)] [(9,.slice a s.ns.length cap),(10,.int .i64 ((s.ns.length:Nat):Int)),(11,.int .i64 0)] (hk:=⟨es,trivial⟩) fun ac S=>Sx.done<|κ16 _ _<|wp_block ?_
 have R:=Sx.Rw.nil S
 have R:=nrow_nil R
 refine Vp.loop (ι:=Nat×Value×List NodeD) (fun p a' w'=>p.1≤s.ns.length∧(p.2.2.map NodeD.strip=(s.ns.take p.1).map NodeD.strip)∧Sx.Rw w w' [(b9,(Sx.L [.int .i64 s.w,.int .i64 s.h]++s.bg.cells++Sx.L [p.2.1])),(b5,[.int .i64 0,.int .i64 0,.int .u8 0,.int .u8 0,.int .u8 0,.int .u8 0,.slice none 0 0]),(b2,s.cells)] [⟨43,47,p.2.1,p.1,p.2.2.flatMap NodeD.cells⟩]∧Sx.Ow w.heap.size (Sx.Ob [(b9,(Sx.L [.int .i64 s.w,.int .i64 s.h]++s.bg.cells++Sx.L [p.2.1])),(b5,[.int .i64 0,.int .i64 0,.int .u8 0,.int .u8 0,.int .u8 0,.int .u8 0,.slice none 0 0]),(b2,s.cells)] [⟨43,47,p.2.1,p.1,p.2.2.flatMap NodeD.cells⟩]) (fun W=>∀z∈p.2.2,z.okT w.heap.size W) w'∧Sx.St w a' w' 24 [(0,s.v),(1,.pointer (some ⟨b2,0,none⟩)),(2,.pointer (some ⟨b5,0,none⟩)),(3,.pointer (some ⟨b9,0,none⟩)),(9,.slice a s.ns.length cap),(10,.int .i64 ((s.ns.length:Nat):Int)),(11,.int .i64 ((p.1:Nat):Int))] [(b9,(Sx.L [.int .i64 s.w,.int .i64 s.h]++s.bg.cells++Sx.L [p.2.1])),(b5,[.int .i64 0,.int .i64 0,.int .u8 0,.int .u8 0,.int .u8 0,.int .u8 0,.slice none 0 0]),(b2,s.cells)] []) (fun p=>s.ns.length-p.1) (0,.slice none 0 0,[]) ⟨Nat.zero_le _,rfl,R,(fun _ _ _ z hz=>by cases hz),(S.sub [(0,s.v),(1,.pointer (some ⟨b2,0,none⟩)),(2,.pointer (some ⟨b5,0,none⟩)),(3,.pointer (some ⟨b9,0,none⟩)),(9,.slice a s.ns.length cap),(10,.int .i64 ((s.ns.length:Nat):Int)),(11,.int .i64 ((0:Nat):Int))]).noviews⟩ ?_
 rintro⟨k,v,M⟩ ac u hI
 try dsimp only at hI
 obtain⟨hk,hR,R,hF_M,S⟩:=hI
 refine Sx.seqP fun _ κ17=>Sx.run S 1 [] [(12,.bool (decide (((k:Nat):Int)<((s.ns.length:Nat):Int))))] fun ac S=>Sx.done<|κ17 _ _<|wp_seq_k (fun _ κ18=>?_)
 refine Sx.cond S (fun hc19=>?_) (fun hc19=>?_)
 ·refine wp_skip<|κ18 _ _<|wp_seq_k fun _ κ20=>wp_block<|Sx.seqP (fun _ κ21=>?_)
  have lt27:k<s.ns.length:=by have:=of_decide_eq_true hc19; omega
  obtain⟨b22,o23,c24,hv,hb29,hr25⟩:=Vp.rowN_range2 hr (fun _=>rfl) (k) lt27
  simp only[Value.slice.injEq,true_and]at hv
  obtain⟨rfl,rfl⟩:=hv
  obtain⟨x28,hx26⟩:∃z,s.ns[k]=z:=⟨_,rfl⟩
  rw[hx26]at hr25
  have S:=S.view0 hb29 hr25
  refine Sx.run S 2 [.idx k s.ns.length,.mem 3 0] [(14,x28.v)] (hk:=⟨lt27,trivial⟩) fun ac S=>Sx.newp S 5 (Sx.L [.int .i64 0,.int .i64 0,.int .i64 0]++Sx.za++Sx.L [.slice none 0 0,.int .i64 0,.int .u8 0,.int .i64 0,.bool false,.bool false,.slice none 0 0,.int .i64 0,.slice none 0 0,.int .i64 0,.int .i64 0,.int .i64 0,.int .i64 0,.slice none 0 0,.int .i64 0,.slice none 0 0,.int .i64 0,.int .i64 0,.slice none 0 0,.int .i64 0]) fun ac u b30 E31 hb32 S=>Sx.store S 0 (off:=0) (cs:=x28.cells) rfl fun u C33 S=>Sx.done (κ21 _ _ ?_)
  have hold:=fun p hp=>(S.own p hp).1.1
  obtain⟨R,Y34⟩:=R.sync2 S (Sx.Stp.trans (Sx.Stp.boxv E31 hb32) (Sx.Stp.chm C33 (by simp[Sx.vb])))
  have q35:=S.E.size
  have q36:=R.lt
  refine Sx.drawX S 5 [(18,fun v w1=>∃m:NodeD,v=m.v∧m.cp u.heap.size w1∧m.strip=x28.strip),(19,fun v w1=>∃m b,v = .slice (some ⟨b,0,none⟩) 1 1∧u.heap.size≤b∧Bx w1 b (NodeD.cells m).toArray∧Sx.On (fun i=>u.heap.size≤i∧i≠b) (fun W=>m.okT u.heap.size W) w1∧m.strip=x28.strip)] (fun r=>[.mem 1 6,.mem 0 0,.hand 19 []]) (fun x=>[x 18,x 19]) (fun x=>[(_,_,true,x 18,18)]) [[]] (fun x=>[(16,v),(19,x 19)]) ⟨fun _ _ _ k h=>by obtain⟨m,e,h,q⟩:=h; exact⟨m,e,h.ext k,q⟩,fun v w w' k h=>by obtain⟨m,b,e,h1,h2,h3,q⟩:=h; exact⟨m,b,e,h1,h2.ext k,h3.ext k,q⟩,trivial⟩ (fun x=>⟨by intro u hC g F; exact(clone_any ((h.2.2.2 _ (hx26▸List.getElem_mem lt27)).1.below (Ext.trans' S.E hC)) (hlim _ (hx26▸List.getElem_mem lt27))).mono fun e w2 h=>by obtain⟨m,rfl,hx,hs,hb⟩:=h; exact⟨_,rfl,⟨m,rfl,node_le hx hC.size,hs⟩,hb⟩,trivial⟩) (fun ac u x E37 F S=>?_) (hk:=fun r=>⟨trivial,trivial⟩) (hl:=[(4,[18])]) (hH:=fun x r=>⟨fun o ho ρ u hs hE hρ hV F=>by obtain⟨F18,-⟩:=F; obtain⟨m,e,h,q⟩:=F18; exact Sx.does_new ho hs [(18,m.v)] (Sx.look1 ((hρ 18 (by decide) rfl).trans e)) m.cells (some 1) (fun v w' hn hE2=>Sx.hp_of ho rfl rfl hE2 (by obtain⟨b,e2,h2,h3⟩:=hn; exact⟨m,b,e2,Nat.le_trans hE.size h2,h3,Sx.On.fresh h hE2 h2,q⟩)),trivial⟩)
  obtain⟨F18,F19,-⟩:=F
  clear F18
  obtain⟨m,b38,eb38,hb40,X39,hm,hms⟩:=F19
  rw[eb38]at S
  have S:=S.noviews
  have S:=S.adopt (A:=m.cells) X39 (Nat.le_trans q35 hb40) (fun p hp=>by have:=hold p hp; omega) (fun m hm=>by cases hm)
  obtain⟨R,Y41⟩:=R.sync2 S ((Sx.Stp.ext E37).addv hb40)
  have G42:=Sx.On.imp (Sx.ow_new R hm q36 q35) fun _ h=>okT_le h q35
  have hM:M.length=k:=by have:=congrArg List.length hR; simp at this; omega
  refine Sx.app S R 0 20 rfl tyNode (Sx.raw_bx (m:=1) (k:=47) (A:=m.cells) (S.bx 0)) (by show k+1≤9223372036854775807; omega) (by show(k+1)*656≤140737488355328; omega) (fun ac u v43 X44 R S=>?_)
  obtain⟨a8,c8,e8⟩:=Sx.own_shape (R.own _ List.mem_cons_self)
  replace e8:v43 = .slice a8 (k+1) c8:=e8
  subst e8
  refine Sx.run S 1 [] [(21,.pointer (some ⟨b9,6,none⟩))] fun ac S=>Sx.store1 S 2 (off:=6) (v := .slice a8 (k+1) c8) rfl fun u C45 S=>Sx.done<|κ20 _ _<|Vp.region<|Sx.run S 2 [.re 22 (.int .i64 (IntKind.i64.wrap (((k:Nat):Int)+1))) (.int .i64 (((k+1):Nat):Int))] [(11,.int .i64 (((k+1):Nat):Int))] (hk:=⟨Sx.wrap_succ (by omega),trivial⟩) fun ac S=>Sx.done ?_
  have S:=S.dropB 2
  obtain⟨R,Y46⟩:=R.sync2 S (Sx.Stp.trans (Sx.Stp.chm C45 (by simp[Sx.vb])) (Sx.Stp.dropv 2))
  show ∃i',_∧_
  exact⟨((k+1),.slice a8 (k+1) c8,M++[m]),⟨by omega,(nstrip_snoc lt27 hx26 hR hms),R.as (congrArg (fun xs=>[(⟨43,47,.slice a8 (k+1) c8,k+1,xs⟩:Sx.Row)]) (show M.flatMap NodeD.cells++m.cells=(M++[m]).flatMap NodeD.cells by simp)),Sx.On.imp (Sx.On.and (Sx.On.step hF_M (Sx.Stp.trans Y34 (Sx.Stp.trans Y41 (Sx.Stp.trans X44 Y46)))) (Sx.On.step G42 (Sx.Stp.trans X44 Y46))) fun _ h=>okT_all_snoc h.1 h.2,(S.sub [(0,s.v),(1,.pointer (some ⟨b2,0,none⟩)),(2,.pointer (some ⟨b5,0,none⟩)),(3,.pointer (some ⟨b9,0,none⟩)),(9,.slice (some ⟨b22,o23,none⟩) s.ns.length cap),(10,.int .i64 ((s.ns.length:Nat):Int)),(11,.int .i64 (((k+1):Nat):Int))]).noviews⟩,by show _-_<_-_; omega⟩
 ·refine wp_exit<|κ15 _ _<|Sx.seqP (fun _ κ47=>?_)
  have hk:=of_decide_eq_false hc19
  obtain rfl:k=s.ns.length:=by omega
  rw[List.take_length]at hR
  have hM:M.length=s.ns.length:=by have:=congrArg List.length hR; simpa using this
  have hF:=hF_M
  rw[←hM]at R
  obtain⟨a1,c1,e1⟩:=Sx.own_shape (R.own _ List.mem_cons_self)
  replace e1:v = .slice a1 M.length c1:=e1
  subst e1
  refine Sx.run S 1 [.mem 0 0] [(23,.agg (Sx.L [.int .i64 s.w,.int .i64 s.h]++s.bg.cells++Sx.L [.slice a1 M.length c1]).toArray)] fun ac S=>Sx.store S 1 (off:=0) (cs:=(Sx.L [.int .i64 s.w,.int .i64 s.h]++s.bg.cells++Sx.L [.slice a1 M.length c1])) rfl fun u C48 S=>Sx.done<|κ47 _ _<|Vp.rt ?_
  obtain⟨R,Y49⟩:=R.sync2 S (Sx.Stp.chm C48 (by simp[Sx.vb]))
  have hF:=(Sx.On.step hF_M Y49)
  have ho:=R.own _ List.mem_cons_self
  have key:bodyPost Tryz.prog Tryz.f26 (fun e w'=>∃m:SceneD,e = .returned m.v∧m.own w.heap.size w'∧m.ns.map NodeD.strip=s.ns.map NodeD.strip∧m.w=s.w∧m.h=s.h∧m.bg=s.bg∧Ext w w') .ret ac u:=Sx.retc S 1 Tryz.results26 rfl (v := .agg (SceneD.cells ⟨s.w,s.h,s.bg,a1,c1,M⟩).toArray) ⟨⟨s.w,s.h,s.bg,a1,c1,M⟩,rfl,⟨ho,hF.mono fun i hi=>⟨hi.1,fun e=>hi.2 (Sx.mem_ob_row List.mem_cons_self e)⟩⟩,hR,rfl,rfl,rfl,S.E⟩
  exact key
end Go.Proofs.YtfmkkemfhjkajaaGreatDoor
