/- What a node holds, without the places: keys, numbers, -/
import Derived.Test.YtfmkkemfhjkajaaGreatDoorCln36b
import Derived.Test.YtfmkkemfhjkajaaGreatDoorScW2
import Derived.Test.YtfmkkemfhjkajaaGreatDoorPk32
set_option linter.unusedVariables false
namespace Go.Proofs.YtfmkkemfhjkajaaGreatDoor
section
open Go.RowKit
variable{α:Type}{K:Nat}
theorem wY(n:aj):n.strip.key=n.key:=by
 unfold aj.key aj.strip
 simp only[List.map_map]
 rfl
theorem Gq{a b:aj}(h:a.strip=b.strip):a.key=b.key:=by rw[←wY a,←wY b,h]
theorem RF{l m:List aj}(h:l.map aj.strip=m.map aj.strip):l.map aj.key=m.map aj.key:=by
 have e:∀l:List aj,l.map aj.key=(l.map aj.strip).map aj.key:=fun l=>by
  rw[List.map_map]
  exact List.map_congr_left fun n _=>(wY n).symm
 rw[e l,e m,h]
theorem Gs{l m:List ak}(h:l.map ak.strip=m.map ak.strip)(hf:∀p∈m,p.t.fit K):∀p∈l,p.t.fit K:=fun p hp=>by
 have hm:p.strip∈m.map ak.strip:=h▸List.mem_map.2 ⟨p,hp,rfl⟩
 obtain⟨q,hq,e⟩:=List.mem_map.1 hm
 have h1:q.strip.t.fit K:=hf q hq
 rw[e]at h1
 exact h1
theorem Gt{a b:aj}(h:a.strip=b.strip):a.t.strip=b.t.strip∧a.fill.map ak.strip=b.fill.map ak.strip∧a.stroke.map ak.strip=b.stroke.map ak.strip:=by
 unfold aj.strip at h
 simp only[aj.mk.injEq]at h
 exact⟨h.2.2.2.1,h.2.2.2.2.2.2.2.2.2.2.2.2.2.2.2.2.2.2.1,h.2.2.2.2.2.2.2.2.2.2.2.2.2.2.2.2.2.2.2.2.2.2.1⟩
def aj.Wu(K:Nat)(n:aj):Prop:=n.t.fit K∧(∀p∈n.fill,p.t.fit K)∧(∀p∈n.stroke,p.t.fit K)∧1≤K∧K≤10000
theorem Ji{a b:aj}(h:a.Wu K)(hs:b.strip=a.strip):b.Wu K:=by
 obtain⟨h1,h2,h3⟩:=Gt hs
 have hf:a.t.strip.fit K:=h.1
 exact⟨by rw[←h1]at hf; exact hf,Gs h2 h.2.1,Gs h3 h.2.2.1,h.2.2.2⟩
theorem fits_all{l m:List aj}(hs:m.map aj.strip=l.map aj.strip)(h:∀n∈l,n.Wu K):∀n∈m,n.Wu K:=fun n hn=>by
 have hm:n.strip∈l.map aj.strip:=hs▸List.mem_map.2 ⟨n,hn,rfl⟩
 obtain⟨q,hq,e⟩:=List.mem_map.1 hm
 exact Ji (h q hq) e.symm
theorem uJ{l m:List ak}(hs:m.map ak.strip=l.map ak.strip)(h:∀p∈l,p.lim):∀p∈m,p.lim:=fun p hp=>by
 have hm:p.strip∈l.map ak.strip:=hs▸List.mem_map.2 ⟨p,hp,rfl⟩
 obtain⟨q,hq,e⟩:=List.mem_map.1 hm
 have h1:q.strip.lim:=h q hq
 rw[e]at h1
 exact h1
theorem Jj{a b:aj}(h:a.lim)(hs:b.strip=a.strip):b.lim:=by
 obtain⟨h1,h2,h3⟩:=Gt hs
 have l2:b.fill.length=a.fill.length:=by have:=congrArg List.length h2; simpa using this
 have l3:b.stroke.length=a.stroke.length:=by have:=congrArg List.length h3; simpa using this
 unfold aj.strip at hs
 simp only[aj.mk.injEq,aZ.strip,aZ.mk.injEq,bU.strip,bU.mk.injEq]at hs
 obtain⟨k1,k2,k3,k4,k5,k6,k7,k8,k9⟩:=h
 have ht:a.t.strip.lim:=k1
 rw[←h1]at ht
 refine⟨ht,?_,?_,by omega,uJ h2 k5,?_,by omega,uJ h3 k8,?_⟩
 all_goals simp only[hs]; first | exact k2 | exact k3 | exact k6 | exact k9
theorem RG{l m:List aj}(hs:m.map aj.strip=l.map aj.strip)(h:∀n∈l,n.lim):∀n∈m,n.lim:=fun n hn=>by
 have hm:n.strip∈l.map aj.strip:=hs▸List.mem_map.2 ⟨n,hn,rfl⟩
 obtain⟨q,hq,e⟩:=List.mem_map.1 hm
 exact Jj (h q hq) e.symm
abbrev aj.RH (K:Nat)(n:aj):Prop:=n.Wu K∧n.lim
theorem Gu{a b:aj}(h:a.RH K)(hs:b.strip=a.strip):b.RH K:=⟨Ji h.1 hs,Jj h.2 hs⟩
end
section
set_option maxHeartbeats 3200000
set_option maxRecDepth 100000
open Go.RowKit
variable{α:Type}{K:Nat}
theorem BR:jA Tryz.prog 24 43 (.agg nO.cells.toArray) 47 656:=⟨Tryz.underlying24,info_parts (by kernel_rfl),rfl,by decide⟩
theorem wZ{w:World}{v:Value}{L:List aj}(h:aT 47 aj.cells w v L):fQ w 47 v L.length (L.flatMap aj.cells):=Sx.pI h (fun _=>rfl) fun _=>rfl
theorem BU{base b0:Nat}{n:aj}{w:World}(h:n.qY base w)(hb:b0≤base):n.qY b0 w:=⟨h.1,h.2.1.le hb,h.2.2.1.le hb,h.2.2.2.1.le hb,h.2.2.2.2.1.le hb,h.2.2.2.2.2.1.le hb,h.2.2.2.2.2.2.1.le hb,h.2.2.2.2.2.2.2.le hb⟩
def adE(base:Nat)(v:Value)(l:List aj)(w:World):Prop:=Sx.kD 43 47 aj.cells base v l w∧∀n∈l,n.qY base w
abbrev kY (base:Nat)(v:Value)(l:List aj)(w:World):Prop:=Sx.iE base (adE base v l) w
structure aS.own (base:Nat) (m:aS) (w:World):Prop where
 row:w.ownsRow base 43 47 m.s m.ns.length (m.ns.flatMap aj.cells)
 nodes:Sx.On (fun i=>base≤i∧m.s.ownBlock≠some i) (fun W=>∀n∈m.ns,n.qY base W) w
theorem aS.own.cp{base:Nat}{m:aS}{w:World}(h:m.own base w):kY base m.s m.ns w:=Sx.On.and (Sx.fV (fun _=>rfl) h.row rfl rfl) (h.nodes.mono fun _ h=>h.1)
theorem kY.ok{base:Nat}{v:Value}{l:List aj}{w:World}(h:kY base v l w)(hf:∀n∈l,n.Wu K):oq K w v l:=⟨(Sx.On.self h).1.1,fun n hn=>⟨((Sx.On.self h).2 n hn).1,hf n hn⟩⟩
theorem kY.le{base b0:Nat}{v:Value}{l:List aj}{w:World}(h:kY base v l w)(hb:b0≤base):kY b0 v l w:=Sx.On.imp (Sx.iE.le h hb) fun _ h=>⟨h.1.le hb,fun n hn=>BU (h.2 n hn) hb⟩
theorem KI{P:aj→Prop}{M:List aj}{x:aj}(h:∀p∈M,P p)(hx:P x):∀p∈M++[x],P p:=fun p hp=>by
 rcases List.mem_append.1 hp with hp | hp
 ·exact h p hp
 ·rw[List.mem_singleton.1 hp]; exact hx
theorem Ox{l M:List aj}{k:Nat}{x y:aj}(hk:k<l.length)(hx:l[k]=x)(h:M.map aj.strip=(l.take k).map aj.strip)(hy:y.strip=x.strip):(M++[y]).map aj.strip=(l.take (k+1)).map aj.strip:=by
 rw[List.take_succ_eq_append_getElem hk,List.map_append,List.map_append,h,hx]; simp[hy]
theorem RI{w:World}{a:Option Addr}{L:List aj}{c i:Nat}(h:aT 47 aj.cells w (.slice a L.length c) L)(hi:i≤L.length):aT 47 aj.cells w (.slice (Sx.wz a 0 i 47) i i) (L.take i):=Sx.Vh h hi (Nat.le_trans hi (Sx.pJ h))
theorem Oy{w:World}{a:Option Addr}{L:List aj}{c i:Nat}(h:aT 47 aj.cells w (.slice a L.length c) L)(hi:i≤L.length):fQ w 47 (.slice (Sx.wz a 0 i 47) i i) i ((L.take i).flatMap aj.cells):=by
 have:=wZ (RI h hi)
 rwa [List.length_take,Nat.min_eq_left hi]at this
theorem Oz{w:World}{a:Option Addr}{L:List aj}{c i:Nat}(h:aT 47 aj.cells w (.slice a L.length c) L)(hi:i≤L.length):fQ w 47 (.slice (Sx.wz a i c 47) (L.length-i) (c-i)) (L.length-i) ((L.drop i).flatMap aj.cells):=by
 have:=wZ (Sx.IU h hi (Sx.pJ h))
 rwa [List.length_drop]at this
theorem AU{w:World}{vl vm:Value}{L M:List aj}(hl:aT 47 aj.cells w vl L)(hm:aT 47 aj.cells w vm M){i:Nat}(hi:i≤L.length)(hM0:0<M.length)(hn:L.length+M.length≤100000){z:Int}(hz:z=(i:Int)) :
  Calls Tryz.prog 81 #[vl,.int .i64 z,vm] w fun e w'=>∃v',e = .returned v'∧w'.ownsRow w.heap.size 43 47 v' (L.take i++M++L.drop i).length ((L.take i++M++L.drop i).flatMap aj.cells)∧Ext w w':=by
 subst hz
 obtain⟨a,cap,rfl⟩:=hl.shape
 have hlc:=Sx.pJ hl
 have hic:i≤cap:=Nat.le_trans hi hlc
 refine aiK Tryz.func81 Tryz.ntmps81 fun ac S=>aiG fun _ aU=>adr S 1 [] [(6,.slice none 0 0)] fun ac S=>aiF<|aU _ _<|aiG fun _ fE=>adr S 5 [.slc 0 i i cap] [(7,.slice (Sx.wz a 0 i 47) i i)] (hk:=⟨⟨Nat.zero_le _,Nat.le_refl _,hic⟩,trivial⟩) fun ac S=>aiF<|fE _ _<|wp_seq_k (fun _ gW=>?_)
 refine aiV S 6 [(14,fun v w1=>w1.ownsRow w.heap.size 43 47 v (i+M.length) ((L.take i++M).flatMap aj.cells))] (fun r=>[.hand 14 [(12,.slice (Sx.wz a 0 i 47) i i),(13,vm)],.slc i L.length cap cap]) (fun x=>[x 14]) (fun x=>[]) [] (fun x=>[(14,x 14),(17,.slice (Sx.wz a i cap 47) (L.length-i) (cap-i))]) ⟨fun _ _ _ k h=>Sx.iP h k,trivial⟩ (fun x=>trivial) (fun ac u x E4 F S=>?_) (hk:=fun r=>⟨trivial,⟨hi,hlc,Nat.le_refl _⟩,trivial⟩) (hl:=[(2,[])]) (hH:=fun x r=>⟨fun o ho ρ u hs hE hρ hV F=>by exact Sx.MQ ho BR (hV (12,_) List.mem_cons_self) (hV (13,_) (List.mem_cons_of_mem _ List.mem_cons_self)) (Oy (hl.below (Ext.trans' S.E hE)) hi) (wZ (hm.below (Ext.trans' S.E hE))) hM0 (by show i+M.length≤9223372036854775807; omega) (by omega) (fun v' w' h hE2=>Sx.uz ho rfl rfl hE2 (by rw[←List.flatMap_append]at h; exact Sx.ownsRow_base h (Ext.trans' S.E hE).size)),trivial⟩)
 obtain⟨Xp,-⟩:=F
 have R:=(Sx.Rw.nil S).add (r:=⟨43,47,_,i+M.length,(L.take i++M).flatMap aj.cells⟩) Xp (fun b hb=>by cases hb) (Nat.le_refl _)
 obtain⟨a1,c1,e1⟩:=Sx.kW Xp
 rw[e1]at S R
 refine Sx.app S R 0 18 rfl BR (Oz (hl.below S.E) hi) (by show i+M.length+(L.length-i)≤9223372036854775807; omega) (by show(i+M.length+(L.length-i))*656≤140737488355328; omega) fun ac u v5 X6 R S=>adr S 1 [] [(6,v5)] fun ac S=>aiF<|gW _ _<|Vp.rt ?_
 refine aiH S Tryz.results81 ?_
 have ho:=R.own _ List.mem_cons_self
 rw[←List.flatMap_append]at ho
 exact⟨_,rfl,by rw[show(L.take i++M++L.drop i).length=i+M.length+(L.length-i) by simp; omega]; exact ho,S.E⟩
theorem Wv{w u:World}{os:List Oper}{i:Nat}{o:Oper}{ρ:Operand→Value}(ho:os[i]?=some o){a:Option Addr}{L:List aj}{cap f t:Nat}(hs:ρ (.tmp 13) = .slice (Sx.wz a 0 f 47) f f)(hx:ρ (.tmp 16) = .slice (Sx.wz a t cap 47) (L.length-t) (cap-t))
  (hl:aT 47 aj.cells w (.slice a L.length cap) L) (hft:f<t) (ht:t≤L.length) (hn:L.length≤100000) (hE:Ext w u) {Post:Value→World→Prop} (hK:∀v w',Ext u w'→(∀base B,base≤w.heap.size→Sx.On B (Sx.kD 43 47 aj.cells base (.slice a L.length cap) L) w→Sx.On (fun i=>B i∨w.heap.size≤i) (Sx.kD 43 47 aj.cells base v (L.take f++L.drop t)) w')→Post v w') (hop:Sx.MP os i=some (.tmp 13,.tmp 16,24,true):=by kernel_rfl) :
  Rel.Does Tryz.prog o ρ u Post:=by
 have hlc:=Sx.pJ hl
 rcases Nat.lt_or_ge t L.length with h | h
 ·have hlen:(L.take f++L.drop t).length=f+(L.length-t):=by simp; omega
  refine Sx.MQ ho BR hs hx (Oy (hl.below hE) (by omega)) (Oz (hl.below hE) ht) (by omega) (by show f+(L.length-t)≤9223372036854775807; omega) (by omega) (fun v' w' h hE2=>hK v' w' hE2 fun base B hb hd=>?_) hop
  rw[←List.flatMap_append]at h
  exact Sx.On.imp (Sx.On.mono (Sx.fV (f:=aj.cells) (fun _=>rfl) h hlen.symm rfl) fun i hi => .inr (Nat.le_trans hE.size hi)) fun _ h=>h.le (Nat.le_trans hb hE.size)
 ·have e1:L.length-t=0:=by omega
  rw[e1]at hx
  refine Sx.Vj ho BR (Nat.le_refl f) hs hx (hK _ _ Ext.rfl' fun base B hb hd=>?_) hop
  rw[List.drop_eq_nil_of_le h,List.append_nil,Sx.Yv]
  exact Sx.On.imp (Sx.On.mono (Sx.On.ext hd hE) fun _ h => .inl h) fun _ h=>Sx.Qq h (by omega) (Nat.le_refl f) (by omega)
theorem Dj{w:World}{a:Option Addr}{cap:Nat}{L:List aj}(hl:aT 47 aj.cells w (.slice a L.length cap) L){f t:Nat}(hft:f<t)(ht:t≤L.length)(hn:L.length≤100000){z:Int}(hz:z=(f:Int)) :
  Calls Tryz.prog 82 #[.slice a L.length cap,.int .i64 z,.int .i64 ((t:Nat):Int)] w fun e w'=>∃v1,e = .returned (.tuple #[v1,.slice (Sx.wz a f t 47) (t-f) (t-f)])∧(∀base B,base≤w.heap.size→Sx.On B (Sx.kD 43 47 aj.cells base (.slice a L.length cap) L) w→Sx.On (fun i=>B i∨w.heap.size≤i) (Sx.kD 43 47 aj.cells base v1 (L.take f++L.drop t)) w')∧Ext w w':=by
 subst hz
 have hlc:=Sx.pJ hl
 refine aiK Tryz.func82 Tryz.ntmps82 fun ac S=>aiG fun _ aU=>adr S 2 [] [(6,.slice none 0 0),(7,.slice none 0 0)] fun ac S=>aiF<|aU _ _<|aiG fun _ fE=>adr S 5 [.slc 0 f f cap] [(8,.slice (Sx.wz a 0 f 47) f f)] (hk:=⟨⟨Nat.zero_le _,Nat.le_refl _,by omega⟩,trivial⟩) fun ac S=>aiF<|fE _ _<|wp_seq_k (fun _ gW=>?_)
 refine aiV S 11 [(17,fun v w1=>∀base B,base≤w.heap.size→Sx.On B (Sx.kD 43 47 aj.cells base (.slice a L.length cap) L) w→Sx.On (fun i=>B i∨w.heap.size≤i) (Sx.kD 43 47 aj.cells base v (L.take f++L.drop t)) w1),(6,fun v w1=>∀base B,base≤w.heap.size→Sx.On B (Sx.kD 43 47 aj.cells base (.slice a L.length cap) L) w→Sx.On (fun i=>B i∨w.heap.size≤i) (Sx.kD 43 47 aj.cells base v (L.take f++L.drop t)) w1)] (fun r=>[.slc t L.length cap cap,.hand 17 [(13,.slice (Sx.wz a 0 f 47) f f),(16,.slice (Sx.wz a t cap 47) (L.length-t) (cap-t))],.slc f t t cap,.hand 6 []]) (fun x=>[x 17,x 6]) (fun x=>[]) [] (fun x=>[(6,x 6),(22,.slice (Sx.wz a f t 47) (t-f) (t-f))]) ⟨fun _ _ _ k h base B hb hd=>Sx.On.ext (h base B hb hd) k,fun _ _ _ k h base B hb hd=>Sx.On.ext (h base B hb hd) k,trivial⟩ (fun x=>trivial) (fun ac u x E4 F S=>?_) (hk:=fun r=>⟨⟨ht,hlc,Nat.le_refl _⟩,trivial,⟨by omega,Nat.le_refl _,by omega⟩,trivial,trivial⟩) (hl:=[(4,[]),(10,[17])]) (hH:=fun x r=>⟨fun o ho ρ u hs hE hρ hV F=>by exact Wv ho (hV (13,_) List.mem_cons_self) (hV (16,_) (List.mem_cons_of_mem _ List.mem_cons_self)) hl hft ht hn (Ext.trans' S.E hE) (fun v' w' hE2 h=>Sx.uz ho rfl rfl hE2 h),fun o ho ρ u hs hE hρ hV F=>by obtain⟨Qc,-⟩:=F; exact Sx.qx ho hs [(17,x 17)] (Sx.look1 (hρ 17 (by decide) rfl)) (x 17) (Sx.uz ho rfl rfl Ext.rfl' Qc),trivial⟩)
 obtain⟨Qc,F6,-⟩:=F
 refine adr S 1 [] [(7,.slice (Sx.wz a f t 47) (t-f) (t-f))] fun ac S=>aiF<|gW _ _<|Vp.rt ?_
 refine Sx.vM S Tryz.results82 ?_
 exact⟨_,rfl,F6,S.E⟩
theorem OA{w0 w:World}{bl:List (Nat×List Value)}(R:Sx.Rw w0 w bl []):Sx.Rw w0 w bl [⟨43,47,.slice none 0 0,0,[]⟩]:=
 ⟨fun r hr=>by obtain rfl:=List.mem_singleton.1 hr; exact⟨rfl,.inl ⟨rfl,rfl⟩⟩,R.lt,R.apart⟩
theorem _root_.Go.Sx.On.fresh{B:Nat→Prop}{F:World→Prop}{w w':World}{b:Nat}(h:Sx.On B F w)(hE:Ext w w')(hb:w.heap.size≤b):Sx.On (fun i=>B i∧i≠b) F w':=fun w2 hs hk =>
 h w2 (Nat.le_trans hE.size hs) fun k hk1 hk2=>(hk k (Nat.lt_of_lt_of_le hk1 hE.size) ⟨hk2,by omega⟩).trans (hE.block k hk1)
theorem _root_.Go.Sx.Zn{w0 w:World}{b:Nat}{A:List Value}{bl:List (Nat×List Value)}{rs:List Sx.Row}{F:World→Prop}{B0:Nat}(R:Sx.Rw w0 w ((b,A)::bl) rs)(h:Sx.On (fun i=>B0≤i∧i≠b) F w)(q1:∀k∈Sx.Ob bl rs,k<B0)(q0:w0.heap.size≤B0):Sx.Ow w0.heap.size (Sx.Ob ((b,A)::bl) rs) F w:=
 h.mono fun k hk=>⟨Nat.le_trans q0 hk.1,fun hm=>(List.mem_cons.1 hm).elim (fun e=>hk.2 e) fun hm=>by have:=q1 k hm; omega⟩
theorem _root_.Go.Sx.nM.base{b0 b1:Nat}{A:List Value}{sh:Option Nat}{v:Value}{w:World}(h:Sx.nM b1 A sh v w)(hb:b0≤b1):Sx.nM b0 A sh v w:=by
 obtain⟨b,e,h1,h2⟩:=h
 exact⟨b,e,Nat.le_trans hb h1,h2⟩
theorem OB{w:World}{s:aS}(h:bW K w s)(hlim:∀n∈s.ns,n.lim)(hn:s.ns.length≤100000) :
  Calls Tryz.prog 26 #[s.v] w fun e w'=>∃m:aS,e = .returned m.v∧m.own w.heap.size w'∧m.ns.map aj.strip=s.ns.map aj.strip∧m.w=s.w∧m.h=s.h∧m.bg=s.bg∧Ext w w':=by
 have hmax:s.ns.length≤9223372036854775807:=by omega
 refine aiK Tryz.func26 Tryz.ntmps26 (fun ac S=>?_)
 obtain⟨a,cap,es⟩:∃a c,s.s = .slice a s.ns.length c:=⟨_,_,rfl⟩
 have hr:=h.2.2.1
 rw[es]at hr
 refine aiG fun _ aU=>aiJ S 1 s.cells fun ac u b2 E3 hb4 S=>aiJ S 2 [.int .i64 0,.int .i64 0,.int .u8 0,.int .u8 0,.int .u8 0,.int .u8 0,.slice none 0 0] fun ac u b5 E6 hb7 S=>aiF<|aU _ _<|aiG fun _ dP=>adr S 1 [.mem 1 0] [(6,s.v)] fun ac S=>aiJ S 3 [.int .i64 0,.int .i64 0,.int .u8 0,.int .u8 0,.int .u8 0,.int .u8 0,.slice none 0 0] fun ac u b9 Bj LJ S=>aiL S 0 (off:=0) (cs:=s.cells) rfl fun u C12 S=>aiF<|dP _ _<|aiG fun _ fZ=>adr S 1 [] [(7,.pointer (some ⟨b9,6,none⟩))] fun ac S=>aiW S 0 (off:=6) (v := .slice none 0 0) rfl fun u C14 S=>aiF<|fZ _ _<|wp_seq_k fun _ fH=>aiG fun _ iR=>adr S 4 [.mem 2 6,.re 9 s.s (.slice a s.ns.length cap)] [(9,.slice a s.ns.length cap),(10,.int .i64 ((s.ns.length:Nat):Int)),(11,.int .i64 0)] (hk:=⟨es,trivial⟩) fun ac S=>aiF<|iR _ _<|wp_block ?_
 have R:=Sx.Rw.nil S
 have R:=OA R
 refine Vp.loop (ι:=Nat×Value×List aj) (fun p a' w'=>p.1≤s.ns.length∧(p.2.2.map aj.strip=(s.ns.take p.1).map aj.strip)∧Sx.Rw w w' [(b9,(Sx.L [.int .i64 s.w,.int .i64 s.h]++s.bg.cells++Sx.L [p.2.1])),(b5,[.int .i64 0,.int .i64 0,.int .u8 0,.int .u8 0,.int .u8 0,.int .u8 0,.slice none 0 0]),(b2,s.cells)] [⟨43,47,p.2.1,p.1,p.2.2.flatMap aj.cells⟩]∧Sx.Ow w.heap.size (Sx.Ob [(b9,(Sx.L [.int .i64 s.w,.int .i64 s.h]++s.bg.cells++Sx.L [p.2.1])),(b5,[.int .i64 0,.int .i64 0,.int .u8 0,.int .u8 0,.int .u8 0,.int .u8 0,.slice none 0 0]),(b2,s.cells)] [⟨43,47,p.2.1,p.1,p.2.2.flatMap aj.cells⟩]) (fun W=>∀z∈p.2.2,z.qY w.heap.size W) w'∧Sx.St w a' w' 24 [(0,s.v),(1,.pointer (some ⟨b2,0,none⟩)),(2,.pointer (some ⟨b5,0,none⟩)),(3,.pointer (some ⟨b9,0,none⟩)),(9,.slice a s.ns.length cap),(10,.int .i64 ((s.ns.length:Nat):Int)),(11,.int .i64 ((p.1:Nat):Int))] [(b9,(Sx.L [.int .i64 s.w,.int .i64 s.h]++s.bg.cells++Sx.L [p.2.1])),(b5,[.int .i64 0,.int .i64 0,.int .u8 0,.int .u8 0,.int .u8 0,.int .u8 0,.slice none 0 0]),(b2,s.cells)] []) (fun p=>s.ns.length-p.1) (0,.slice none 0 0,[]) ⟨Nat.zero_le _,rfl,R,(fun _ _ _ z hz=>by cases hz),(S.sub [(0,s.v),(1,.pointer (some ⟨b2,0,none⟩)),(2,.pointer (some ⟨b5,0,none⟩)),(3,.pointer (some ⟨b9,0,none⟩)),(9,.slice a s.ns.length cap),(10,.int .i64 ((s.ns.length:Nat):Int)),(11,.int .i64 ((0:Nat):Int))]).aK⟩ ?_
 rintro⟨k,v,M⟩ ac u hI
 try dsimp only at hI
 obtain⟨hk,hR,R,H9,S⟩:=hI
 refine aiG fun _ ig=>adr S 1 [] [(12,.bool (decide (((k:Nat):Int)<((s.ns.length:Nat):Int))))] fun ac S=>aiF<|ig _ _<|wp_seq_k (fun _ je=>?_)
 refine aiI S (fun hc19=>?_) (fun hc19=>?_)
 ·refine wp_skip<|je _ _<|wp_seq_k fun _ iU=>wp_block<|aiG (fun _ jo=>?_)
  have jq:k<s.ns.length:=by have:=of_decide_eq_true hc19; omega
  obtain⟨b22,Tc,c24,hv,Ac,uo⟩:=Vp.aF hr (fun _=>rfl) (k) jq
  simp only[Value.slice.injEq,true_and]at hv
  obtain⟨rfl,rfl⟩:=hv
  obtain⟨x28,kG⟩:∃z,s.ns[k]=z:=⟨_,rfl⟩
  rw[kG]at uo
  have S:=S.view0 Ac uo
  refine adr S 2 [.idx k s.ns.length,.mem 3 0] [(14,x28.v)] (hk:=⟨jq,trivial⟩) fun ac S=>aiJ S 5 (Sx.L [.int .i64 0,.int .i64 0,.int .i64 0]++Sx.za++Sx.L [.slice none 0 0,.int .i64 0,.int .u8 0,.int .i64 0,.bool false,.bool false,.slice none 0 0,.int .i64 0,.slice none 0 0,.int .i64 0,.int .i64 0,.int .i64 0,.int .i64 0,.slice none 0 0,.int .i64 0,.slice none 0 0,.int .i64 0,.int .i64 0,.slice none 0 0,.int .i64 0]) fun ac u b30 JB PE S=>aiL S 0 (off:=0) (cs:=x28.cells) rfl fun u UO S=>aiF (jo _ _ ?_)
  have hold:=fun p hp=>(S.own p hp).1.1
  obtain⟨R,Y34⟩:=R.eH S (Sx.Stp.trans (Sx.Stp.NJ JB PE) (Sx.Stp.chm UO (by simp[Sx.vb])))
  have q35:=S.E.size
  have q36:=R.lt
  refine aiV S 5 [(18,fun v w1=>∃m:aj,v=m.v∧m.cp u.heap.size w1∧m.strip=x28.strip),(19,fun v w1=>∃m b,v = .slice (some ⟨b,0,none⟩) 1 1∧u.heap.size≤b∧Bx w1 b (aj.cells m).toArray∧Sx.On (fun i=>u.heap.size≤i∧i≠b) (fun W=>m.qY u.heap.size W) w1∧m.strip=x28.strip)] (fun r=>[.mem 1 6,.mem 0 0,.hand 19 []]) (fun x=>[x 18,x 19]) (fun x=>[(_,_,true,x 18,18)]) [[]] (fun x=>[(16,v),(19,x 19)]) ⟨fun _ _ _ k h=>by obtain⟨m,e,h,q⟩:=h; exact⟨m,e,h.ext k,q⟩,fun v w w' k h=>by obtain⟨m,b,e,h1,h2,h3,q⟩:=h; exact⟨m,b,e,h1,h2.ext k,h3.ext k,q⟩,trivial⟩ (fun x=>⟨by intro u hC g F; exact(clone_any ((h.2.2.2 _ (kG▸List.getElem_mem jq)).1.below (Ext.trans' S.E hC)) (hlim _ (kG▸List.getElem_mem jq))).mono fun e w2 h=>by obtain⟨m,rfl,hx,hs,hb⟩:=h; exact⟨_,rfl,⟨m,rfl,JO hx hC.size,hs⟩,hb⟩,trivial⟩) (fun ac u x LP F S=>?_) (hk:=fun r=>⟨trivial,trivial⟩) (hl:=[(4,[18])]) (hH:=fun x r=>⟨fun o ho ρ u hs hE hρ hV F=>by obtain⟨F18,-⟩:=F; obtain⟨m,e,h,q⟩:=F18; exact Sx.MO ho hs [(18,m.v)] (Sx.look1 ((hρ 18 (by decide) rfl).trans e)) m.cells (some 1) (fun v w' hn hE2=>Sx.uz ho rfl rfl hE2 (by obtain⟨b,e2,h2,h3⟩:=hn; exact⟨m,b,e2,Nat.le_trans hE.size h2,h3,Sx.On.fresh h hE2 h2,q⟩)),trivial⟩)
  obtain⟨F18,F19,-⟩:=F
  clear F18
  obtain⟨m,b38,ahk,aco,X39,hm,hms⟩:=F19
  rw[ahk]at S
  have S:=S.aK
  have S:=S.adopt (A:=m.cells) X39 (Nat.le_trans q35 aco) (fun p hp=>by have:=hold p hp; omega) (fun m hm=>by cases hm)
  obtain⟨R,Y41⟩:=R.eH S ((Sx.Stp.ext LP).adw aco)
  have G42:=Sx.On.imp (Sx.Zn R hm q36 q35) fun _ h=>BU h q35
  have hM:M.length=k:=by have:=congrArg List.length hR; simp at this; omega
  refine Sx.app S R 0 20 rfl BR (Sx.Fv (m:=1) (k:=47) (A:=m.cells) (S.bx 0)) (by show k+1≤9223372036854775807; omega) (by show(k+1)*656≤140737488355328; omega) (fun ac u v43 X44 R S=>?_)
  obtain⟨a8,c8,e8⟩:=Sx.kW (R.own _ List.mem_cons_self)
  replace e8:v43 = .slice a8 (k+1) c8:=e8
  subst e8
  refine adr S 1 [] [(21,.pointer (some ⟨b9,6,none⟩))] fun ac S=>aiW S 2 (off:=6) (v := .slice a8 (k+1) c8) rfl fun u C45 S=>aiF<|iU _ _<|Vp.region<|adr S 2 [.re 22 (.int .i64 (IntKind.i64.wrap (((k:Nat):Int)+1))) (.int .i64 (((k+1):Nat):Int))] [(11,.int .i64 (((k+1):Nat):Int))] (hk:=⟨aiR (by omega),trivial⟩) fun ac S=>aiF ?_
  have S:=S.uD 2
  obtain⟨R,Y46⟩:=R.eH S (Sx.Stp.trans (Sx.Stp.chm C45 (by simp[Sx.vb])) (Sx.Stp.Fq 2))
  show ∃i',_∧_
  exact⟨((k+1),.slice a8 (k+1) c8,M++[m]),⟨by omega,(Ox jq kG hR hms),R.as (congrArg (fun xs=>[(⟨43,47,.slice a8 (k+1) c8,k+1,xs⟩:Sx.Row)]) (show M.flatMap aj.cells++m.cells=(M++[m]).flatMap aj.cells by simp)),Sx.On.imp (Sx.On.and (Sx.On.step H9 (Sx.Stp.trans Y34 (Sx.Stp.trans Y41 (Sx.Stp.trans X44 Y46)))) (Sx.On.step G42 (Sx.Stp.trans X44 Y46))) fun _ h=>KI h.1 h.2,(S.sub [(0,s.v),(1,.pointer (some ⟨b2,0,none⟩)),(2,.pointer (some ⟨b5,0,none⟩)),(3,.pointer (some ⟨b9,0,none⟩)),(9,.slice (some ⟨b22,Tc,none⟩) s.ns.length cap),(10,.int .i64 ((s.ns.length:Nat):Int)),(11,.int .i64 (((k+1):Nat):Int))]).aK⟩,by show _-_<_-_; omega⟩
 ·refine wp_exit<|fH _ _<|aiG (fun _ zV=>?_)
  have hk:=of_decide_eq_false hc19
  obtain rfl:k=s.ns.length:=by omega
  rw[List.take_length]at hR
  have hM:M.length=s.ns.length:=by have:=congrArg List.length hR; simpa using this
  have hF:=H9
  rw[←hM]at R
  obtain⟨a1,c1,e1⟩:=Sx.kW (R.own _ List.mem_cons_self)
  replace e1:v = .slice a1 M.length c1:=e1
  subst e1
  refine adr S 1 [.mem 0 0] [(23,.agg (Sx.L [.int .i64 s.w,.int .i64 s.h]++s.bg.cells++Sx.L [.slice a1 M.length c1]).toArray)] fun ac S=>aiL S 1 (off:=0) (cs:=(Sx.L [.int .i64 s.w,.int .i64 s.h]++s.bg.cells++Sx.L [.slice a1 M.length c1])) rfl fun u C48 S=>aiF<|zV _ _<|Vp.rt ?_
  obtain⟨R,Y49⟩:=R.eH S (Sx.Stp.chm C48 (by simp[Sx.vb]))
  have hF:=(Sx.On.step H9 Y49)
  have ho:=R.own _ List.mem_cons_self
  have key:bodyPost Tryz.prog Tryz.f26 (fun e w'=>∃m:aS,e = .returned m.v∧m.own w.heap.size w'∧m.ns.map aj.strip=s.ns.map aj.strip∧m.w=s.w∧m.h=s.h∧m.bg=s.bg∧Ext w w') .ret ac u:=aiS S 1 Tryz.results26 rfl (v := .agg (aS.cells ⟨s.w,s.h,s.bg,a1,c1,M⟩).toArray) ⟨⟨s.w,s.h,s.bg,a1,c1,M⟩,rfl,⟨ho,hF.mono fun i hi=>⟨hi.1,fun e=>hi.2 (Sx.jK List.mem_cons_self e)⟩⟩,hR,rfl,rfl,rfl,S.E⟩
  exact key
end
section
open Go.RowKit
variable{α:Type}{K:Nat}
def adF(i j k:Int)(c:dI)(n:aj):Bool:=((((i==0)&&(j==0))&&(k==0))&&decide (c=dI.none))&&decide (n.key=aJ.zero)
theorem AV(i j k:Int)(c:dI)(n:aj):adF i j k c n=(i==0&&(j==0&&(k==0&&(n.key==aJ.zero&&c==dI.none)))):=by
 unfold adF
 rw[show(n.key==aJ.zero)=decide (n.key=aJ.zero)from rfl,show(c==dI.none)=decide (c=dI.none)from rfl]
 ac_rfl
theorem OC:(nO.key==aJ.zero)=true:=by rw[show nO.key=aJ.zero from rfl]; simp
set_option maxRecDepth 100000 in
set_option maxHeartbeats 3200000 in
theorem Wx{w:World}{e:bC}(he:zo K w e) :
  Calls Tryz.prog 49 #[e.v] w fun r w'=>r = .returned (.bool e.key.named)∧Ext w w':=by
 skip
 refine aiK Tryz.func49 Tryz.ntmps49 (fun ac S=>?_)
 have hK1:=he.2.2.2.2.2.2.2.2.1
 have hK2:=he.2.2.2.2.2.2.2.2.2
 refine aiG fun _ aU=>aiJ S 1 e.cells fun ac u b2 E3 hb4 S=>adr S 1 [] [(2,.bool false)] fun ac S=>aiF<|aU _ _<|wp_seq_k (fun κq bV=>?_)
 have J6:∀(kd i j k:Int) (n:aj) (c:dI) (ac:Act) (u:World),(adF i j k c n=e.key.named)→(fJ K u n)→Sx.St w ac u 48 [(1,.pointer (some ⟨b2,0,none⟩)),(2,.bool false)] [(b2,(Sx.L [.int .i64 kd,.int .i64 i,.int .i64 j,.int .i64 k]++n.cells++c.cells))] []→κq ac u:=by
  intro kd i j k n c ac u ho hn S
  refine bV _ _<|aiG fun _ kC=>aiT S 26 [.mem 0 1,.mem 0 2,.mem 0 3,.mem 0 51,.cmp .eql 23 (.tmp 38) (.tmp 39) (.agg #[.int .u8 (c.r.toNat:Int),.int .u8 (c.g.toNat:Int),.int .u8 (c.b.toNat:Int),.int .u8 (c.a.toNat:Int)]) (.agg #[.int .u8 0,.int .u8 0,.int .u8 0,.int .u8 0]) (.bool (decide (c=dI.none))),.mem 0 4] [(_,_,(((((i)==0)&&((j)==0))&&((k)==0))&&(decide (c=dI.none))),.bool (decide (n.key=aJ.zero)))] [(2,.bool ((((((i)==0)&&((j)==0))&&((k)==0))&&(decide (c=dI.none)))&&(decide (n.key=aJ.zero))))] ⟨fun u hC g=>Uk (hn.below hC) (qN u hK1 hK2),trivial⟩ (hk:=⟨(aiX (fun _=>adG c dI.none _) (by kernel_rfl)),trivial⟩) fun ac u E8 S=>aiF<|kC _ _<|Vp.rt ?_
  refine aiH S Tryz.results49 ?_
  exact⟨aB (by rw[←ho]; rfl),S.E⟩
 refine aiG fun _ gB=>adr S 2 [.mem 0 0] [(4,.int .i64 e.kind)] fun ac S=>aiF<|gB _ _<|wp_block<|wp_seq_k fun _ dV=>wp_block<|wp_seq_k fun _ dB=>wp_block<|wp_seq_k fun _ dw=>wp_block<|wp_seq_k fun _ fZ=>wp_block<|wp_seq_k fun _ fU=>wp_block<|wp_seq_k fun _ fH=>wp_block<|wp_seq_k fun _ iR=>wp_seq_k fun _ ig=>aiG fun _ je=>adr S 2 [] [(5,.bool ((e.kind)==1))] fun ac S=>aiF (je _ _ ?_)
 refine aiI S (fun hc19=>?_) (fun hc19=>?_)
 ·refine wp_exit<|fH _ _<|Vp.region<|adr S 1 [] [(15,.pointer (some ⟨b2,2,none⟩))] fun ac S=>aiW S 0 (off:=2) (v := .int .i64 0) rfl fun u C20 S=>aiF<|fU _ _<|aiG fun _ jo=>adr S 2 [] [(16,.agg (Sx.L [.int .i64 0,.int .i64 0,.int .i64 0]++Sx.za++Sx.L [.slice none 0 0,.int .i64 0,.int .u8 0,.int .i64 0,.bool false,.bool false,.slice none 0 0,.int .i64 0,.slice none 0 0,.int .i64 0,.int .i64 0,.int .i64 0,.int .i64 0,.slice none 0 0,.int .i64 0,.slice none 0 0,.int .i64 0,.int .i64 0,.slice none 0 0,.int .i64 0]).toArray),(17,.pointer (some ⟨b2,4,none⟩))] fun ac S=>aiL S 0 (off:=4) (cs:=(Sx.L [.int .i64 0,.int .i64 0,.int .i64 0]++Sx.za++Sx.L [.slice none 0 0,.int .i64 0,.int .u8 0,.int .i64 0,.bool false,.bool false,.slice none 0 0,.int .i64 0,.slice none 0 0,.int .i64 0,.int .i64 0,.int .i64 0,.int .i64 0,.slice none 0 0,.int .i64 0,.slice none 0 0,.int .i64 0,.int .i64 0,.slice none 0 0,.int .i64 0])) rfl fun u C22 S=>aiF<|jo _ _<|wp_exit ?_
  exact J6 e.kind e.id 0 e.depth nO e.color _ _ (by have hk:=hc19; rw[AV]; unfold gQ.named; simp[bC.key,OC,show e.kind=1 from by simpa using hk]) (qN u he.2.2.2.2.2.2.2.2.1 he.2.2.2.2.2.2.2.2.2) (S.sub [(1,.pointer (some ⟨b2,0,none⟩)),(2,.bool false)]).aK
 ·refine wp_skip<|ig _ _<|wp_seq_k fun _ oJ=>aiG fun _ kK=>adr S 2 [] [(7,.bool ((e.kind)==4))] fun ac S=>aiF (kK _ _ ?_)
  refine aiI S (fun hc25=>?_) (fun hc25=>?_)
  ·refine wp_exit<|fU _ _<|aiG fun _ kH=>adr S 2 [] [(16,.agg (Sx.L [.int .i64 0,.int .i64 0,.int .i64 0]++Sx.za++Sx.L [.slice none 0 0,.int .i64 0,.int .u8 0,.int .i64 0,.bool false,.bool false,.slice none 0 0,.int .i64 0,.slice none 0 0,.int .i64 0,.int .i64 0,.int .i64 0,.int .i64 0,.slice none 0 0,.int .i64 0,.slice none 0 0,.int .i64 0,.int .i64 0,.slice none 0 0,.int .i64 0]).toArray),(17,.pointer (some ⟨b2,4,none⟩))] fun ac S=>aiL S 0 (off:=4) (cs:=(Sx.L [.int .i64 0,.int .i64 0,.int .i64 0]++Sx.za++Sx.L [.slice none 0 0,.int .i64 0,.int .u8 0,.int .i64 0,.bool false,.bool false,.slice none 0 0,.int .i64 0,.slice none 0 0,.int .i64 0,.int .i64 0,.int .i64 0,.int .i64 0,.slice none 0 0,.int .i64 0,.slice none 0 0,.int .i64 0,.int .i64 0,.slice none 0 0,.int .i64 0])) rfl fun u C27 S=>aiF<|kH _ _<|wp_exit ?_
   exact J6 e.kind e.id e.index e.depth nO e.color _ _ (by have hk:=hc25; rw[AV]; unfold gQ.named; simp[bC.key,OC,show e.kind=4 from by simpa using hk]) (qN u he.2.2.2.2.2.2.2.2.1 he.2.2.2.2.2.2.2.2.2) (S.sub [(1,.pointer (some ⟨b2,0,none⟩)),(2,.bool false)]).aK
  ·refine wp_skip<|oJ _ _<|wp_seq_k fun _ lK=>aiG fun _ qm=>adr S 2 [] [(9,.bool ((e.kind)==3))] fun ac S=>aiF (qm _ _ ?_)
   refine aiI S (fun rC=>?_) (fun rC=>?_)
   ·refine wp_exit<|fZ _ _<|Vp.region<|adr S 1 [] [(18,.pointer (some ⟨b2,2,none⟩))] fun ac S=>aiW S 0 (off:=2) (v := .int .i64 0) rfl fun u C31 S=>adr S 1 [] [(19,.pointer (some ⟨b2,3,none⟩))] fun ac S=>aiW S 0 (off:=3) (v := .int .i64 0) rfl fun u C32 S=>aiF<|dw _ _<|aiG fun _ lW=>adr S 1 [] [(20,.pointer (some ⟨b2,1,none⟩))] fun ac S=>aiW S 0 (off:=1) (v := .int .i64 0) rfl fun u C34 S=>aiF<|lW _ _<|wp_exit ?_
    exact J6 e.kind 0 0 0 e.node e.color _ _ (by have hk:=rC; rw[AV]; unfold gQ.named; simp[bC.key,show e.kind=3 from by simpa using hk]) (he.2.2.2.2.below S.E) (S.sub [(1,.pointer (some ⟨b2,0,none⟩)),(2,.bool false)]).aK
   ·refine wp_skip<|lK _ _<|wp_seq_k fun _ oK=>aiG fun _ nJ=>adr S 2 [] [(11,.bool ((e.kind)==2))] fun ac S=>aiF (nJ _ _ ?_)
    refine aiI S (fun l9=>?_) (fun l9=>?_)
    ·refine wp_exit<|dw _ _<|aiG fun _ jG=>adr S 1 [] [(20,.pointer (some ⟨b2,1,none⟩))] fun ac S=>aiW S 0 (off:=1) (v := .int .i64 0) rfl fun u C39 S=>aiF<|jG _ _<|wp_exit ?_
     exact J6 e.kind 0 e.index e.depth e.node e.color _ _ (by have hk:=l9; rw[AV]; unfold gQ.named; simp[bC.key,show e.kind=2 from by simpa using hk]) (he.2.2.2.2.below S.E) (S.sub [(1,.pointer (some ⟨b2,0,none⟩)),(2,.bool false)]).aK
    ·refine wp_skip<|oK _ _<|aiG fun _ yY=>adr S 2 [] [(13,.bool ((e.kind)==5))] fun ac S=>aiF (yY _ _ ?_)
     refine aiI S (fun QZ=>?_) (fun QZ=>?_)
     ·refine wp_exit<|dB _ _<|aiG fun _ qX=>adr S 2 [] [(21,.agg #[.int .u8 0,.int .u8 0,.int .u8 0,.int .u8 0]),(22,.pointer (some ⟨b2,51,none⟩))] fun ac S=>aiL S 0 (off:=51) (cs:=[.int .u8 0,.int .u8 0,.int .u8 0,.int .u8 0]) rfl fun u C43 S=>aiF<|qX _ _<|wp_exit ?_
      exact J6 e.kind e.id e.index e.depth e.node dI.none _ _ (by have hk:=QZ; rw[AV]; unfold gQ.named; simp[bC.key,show e.kind=5 from by simpa using hk]) (he.2.2.2.2.below S.E) (S.sub [(1,.pointer (some ⟨b2,0,none⟩)),(2,.bool false)]).aK
     ·refine wp_skip<|iR _ _<|wp_exit<|dV _ _<|wp_seq_k fun _ wE=>aiG fun _ Bv=>adr S 1 [] [(2,.bool false)] fun ac S=>aiF<|Bv _ _<|Vp.rt ?_
      refine aiH S Tryz.results49 ?_
      exact⟨aB (by unfold gQ.named; rw[if_neg (show ¬(e.key.kind=1)from by simpa[bC.key]using hc19)]; rw[if_neg (show ¬(e.key.kind=2)from by simpa[bC.key]using l9)]; rw[if_neg (show ¬(e.key.kind=3)from by simpa[bC.key]using rC)]; rw[if_neg (show ¬(e.key.kind=4)from by simpa[bC.key]using hc25)]; rw[if_neg (show ¬(e.key.kind=5)from by simpa[bC.key]using QZ)]),S.E⟩
end
end Go.Proofs.YtfmkkemfhjkajaaGreatDoor
