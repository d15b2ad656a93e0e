/- Copies of nodes in new memory: package node. -/
import Derived.Test.YtfmkkemfhjkajaaGreatDoorHoist
import Derived.Test.YtfmkkemfhjkajaaGreatDoorPk31
set_option maxHeartbeats 3200000
set_option maxRecDepth 100000
namespace Go.Proofs.YtfmkkemfhjkajaaGreatDoor
open Go.RowKit
variable{α:Type}{K:Nat}
set_option linter.unusedVariables false
theorem aeF:jA Tryz.prog 34 62 (.agg #[.int .i64 0,.int .i64 0,.int .i64 0,.int .i64 0,.int .i64 0,.int .i64 0,.int .i64 0]) 7 56:=⟨Tryz.underlying34,info_parts (by kernel_rfl),rfl,by decide⟩
theorem acL:jA Tryz.prog 97 155 (.agg #[.int .i64 0,.int .u8 0,.int .u8 0,.int .u8 0,.int .u8 0]) 5 16:=⟨Tryz.underlying97,info_parts (by kernel_rfl),rfl,by decide⟩
theorem aeG:jA Tryz.prog 39 122 (.agg #[.int .u8 0,.int .u8 0,.int .u8 0,.int .u8 0]) 4 4:=⟨Tryz.underlying39,info_parts (by kernel_rfl),rfl,by decide⟩
theorem LW:jA Tryz.prog 36 3 (.int .i64 0) 1 8:=⟨Tryz.underlying36,info_parts (by kernel_rfl),rfl,by decide⟩
theorem aaC:jA Tryz.prog 35 99 (.agg (Sx.L [.int .i64 0,.int .u8 0,.int .u8 0,.int .u8 0,.int .u8 0,.int .i64 0,.int .i64 0,.int .i64 0,.int .i64 0,.int .i64 0,.slice none 0 0,.int .i64 0,.int .i64 0,.int .i64 0,.slice none 0 0,.int .i64 0]++Sx.za).toArray) 40 520:=⟨Tryz.underlying35,info_parts (by kernel_rfl),rfl,by decide⟩
def Cp(e:TypeId)(k:Nat)(f:α→List Value)(base:Nat)(v:Value)(L:List α)(w:World):Prop:=Sx.iE base (Sx.kD e k f base v L) w
theorem Cp.ext{e:TypeId}{k:Nat}{f:α→List Value}{base:Nat}{v:Value}{L:List α}{w w':World}(h:Cp e k f base v L w)(hE:Ext w w'):Cp e k f base v L w':=Sx.On.ext h hE
theorem Cp.mono{e:TypeId}{k:Nat}{f:α→List Value}{base b0:Nat}{v:Value}{L:List α}{w:World}(h:Cp e k f base v L w)(hb:b0≤base):Cp e k f b0 v L w:=Sx.On.imp (Sx.iE.le h hb) fun _ h=>h.le hb
theorem Cp.shape{e:TypeId}{k:Nat}{f:α→List Value}{base:Nat}{v:Value}{L:List α}{w:World}(h:Cp e k f base v L w):∃a c,v = .slice a L.length c:=(Sx.On.self h).1.shape
theorem En(e:TypeId)(k:Nat)(f:α→List Value)(base:Nat)(w:World):Cp e k f base (.slice none 0 0) [] w:=fun w' _ _=>⟨nR k f w',.inl rfl⟩
theorem qO{k:Nat}{f:α→List Value}{w:World}{n c:Nat}{L:List α}(h:aT k f w (.slice none n c) L):L=[]:=by
 obtain⟨a,cap,e,hm,h⟩:=h
 simp only[Value.slice.injEq]at e
 obtain⟨rfl,rfl,rfl⟩:=e
 rcases h with ⟨h,_⟩ | ⟨b,o,h,_⟩
 ·exact h
 ·cases h
theorem jQ{k:Nat}{f:α→List Value}{w:World}{n c:Nat}{L:List α}(h:aT k f w (.slice none n c) L):c=0:=by
 obtain⟨a,cap,e,hm,h⟩:=h
 simp only[Value.slice.injEq]at e
 obtain⟨rfl,rfl,rfl⟩:=e
 rcases h with ⟨_,h⟩ | ⟨b,o,h,_⟩
 ·exact h rfl
 ·cases h
theorem iE.ch{base b:Nat}{F:World→Prop}{w w':World}(h:Sx.iE base F w)(hc:Ch b w w')(hb:b<base):Sx.iE base F w':=fun w2 hs hk =>
 h w2 (Nat.le_trans hc.size hs) fun k hk1 hk2=>(hk k (Nat.lt_of_lt_of_le hk1 hc.size) hk2).trans (hc.block k hk1 fun e=>by simp only[Option.some.injEq]at e; omega)
theorem Eo{f:α→Value}{w:World}{v:Value}{l:List α}(h:aT 1 (fun x=>[f x]) w v l):dO f w v l:=by
 obtain⟨a,cap,hv,hm,h⟩:=h
 refine⟨a,cap,hv,hm,?_⟩
 rcases h with h | ⟨b,o,ha,hlt,hl,hc⟩
 ·exact .inl h
 ·exact .inr ⟨b,o,ha,hlt,hl,fun i hi=>by have:=hc i hi 0 (by omega); simpa using this⟩
def bM.strip(r:bM):bM:=⟨r.n1,Option.none,0,r.l1,r.n2,Option.none,0,r.l2⟩
def aV.strip(t:aV):aV:=⟨t.a.strip,t.b.strip,t.c.strip,t.d.strip,t.e.strip,t.f.strip⟩
def bU.strip(m:bU):bU:=⟨m.w,m.h,Option.none,0,m.l⟩
def ak.strip(p:ak):ak:=⟨p.kind,p.color,p.p0,p.p1,p.bG,Option.none,0,p.stops,p.spread,p.img.strip,p.cZ,p.t.strip⟩
def aZ.strip(p:aZ):aZ:=⟨p.width,p.join,p.cap,p.dU,Option.none,0,p.dash,p.phase⟩
def aj.strip(n:aj):aj:=⟨n.id,n.kind,n.depth,n.t.strip,Option.none,0,n.clip,n.aO,n.eY,n.blend,n.isolated,n.dN,Option.none,0,n.path,n.aY,Option.none,0,n.fill.map ak.strip,n.style.strip,Option.none,0,n.stroke.map ak.strip,n.img.strip,n.cZ⟩
abbrev wC:UInt32→List Value:=fun x=>[aW x]
def bM.qY(base:Nat)(r:bM)(w:World):Prop:=r.ok w∧Sx.Ty 194 1 base r.s1 r.l1.length w∧Sx.Ty 194 1 base r.s2 r.l2.length w
def aV.qY(base:Nat)(t:aV)(w:World):Prop:=t.a.qY base w∧t.b.qY base w∧t.c.qY base w∧t.d.qY base w∧t.e.qY base w∧t.f.qY base w
def ak.qY(base:Nat)(p:ak)(w:World):Prop:=p.ok w∧Sx.Ty 155 5 base p.sv p.stops.length w∧Sx.Ty 122 4 base p.img.s p.img.l.length w∧p.t.qY base w
def mG(base:Nat)(w:World)(v:Value)(l:List ak):Prop:=Sx.kD 99 40 ak.cells base v l w∧∀p∈l,p.qY base w
def aj.qY(base:Nat)(n:aj)(w:World):Prop:=n.ok w∧n.t.qY base w∧Sx.Ty 62 7 base n.cs n.clip.length w∧Sx.Ty 62 7 base n.ps n.path.length w∧mG base w n.fs n.fill∧mG base w n.ss n.stroke∧Sx.Ty 3 1 base n.style.s n.style.dash.length w∧Sx.Ty 122 4 base n.img.s n.img.l.length w
theorem bM.qY.le{base b0:Nat}{r:bM}{w:World}(h:r.qY base w)(hb:b0≤base):r.qY b0 w:=⟨h.1,h.2.1.le hb,h.2.2.le hb⟩
theorem aV.qY.le{base b0:Nat}{t:aV}{w:World}(h:t.qY base w)(hb:b0≤base):t.qY b0 w:=⟨h.1.le hb,h.2.1.le hb,h.2.2.1.le hb,h.2.2.2.1.le hb,h.2.2.2.2.1.le hb,h.2.2.2.2.2.le hb⟩
theorem aV.qY.ok{base:Nat}{t:aV}{w:World}(h:t.qY base w):t.ok w:=⟨h.1.1,h.2.1.1,h.2.2.1.1,h.2.2.2.1.1,h.2.2.2.2.1.1,h.2.2.2.2.2.1⟩
theorem ak.qY.le{base b0:Nat}{p:ak}{w:World}(h:p.qY base w)(hb:b0≤base):p.qY b0 w:=⟨h.1,h.2.1.le hb,h.2.2.1.le hb,h.2.2.2.le hb⟩
theorem mG.le{base b0:Nat}{w:World}{v:Value}{l:List ak}(h:mG base w v l)(hb:b0≤base):mG b0 w v l:=⟨h.1.le hb,fun p hp=>(h.2 p hp).le hb⟩
theorem mG.ok{base:Nat}{w:World}{v:Value}{l:List ak}(h:mG base w v l):iV w v l:=⟨h.1.1,fun p hp=>(h.2 p hp).1⟩
abbrev bM.cp (base:Nat)(r:bM)(w:World):Prop:=Sx.iE base (fun W=>r.qY base W) w
abbrev aV.cp (base:Nat)(t:aV)(w:World):Prop:=Sx.iE base (fun W=>t.qY base W) w
abbrev qZ (base:Nat)(v:Value)(l:List ak)(w:World):Prop:=Sx.iE base (fun W=>mG base W v l) w
theorem Bo{base b0:Nat}{r:bM}{w:World}(h:r.cp base w)(hb:b0≤base):r.cp b0 w:=Sx.On.imp (Sx.iE.le h hb) fun _ h=>h.le hb
theorem XV{base b0:Nat}{t:aV}{w:World}(h:t.cp base w)(hb:b0≤base):t.cp b0 w:=Sx.On.imp (Sx.iE.le h hb) fun _ h=>h.le hb
theorem xK{base b0:Nat}{v:Value}{l:List ak}{w:World}(h:qZ base v l w)(hb:b0≤base):qZ b0 v l w:=Sx.On.imp (Sx.iE.le h hb) fun _ h=>h.le hb
def bM.lim(r:bM):Prop:=r.fit 1000000
def aV.lim(t:aV):Prop:=t.fit 1000000
theorem xM{r:bM}(h:r.fit 1000000):r.l1.length≤10000000∧r.l2.length≤10000000:=⟨by have:=h.1; omega,by have:=h.2; omega⟩
theorem aaD{t:aV}(h:t.lim):(t.a.l1.length≤10000000∧t.a.l2.length≤10000000)∧(t.b.l1.length≤10000000∧t.b.l2.length≤10000000)∧(t.c.l1.length≤10000000∧t.c.l2.length≤10000000)∧(t.d.l1.length≤10000000∧t.d.l2.length≤10000000)∧(t.e.l1.length≤10000000∧t.e.l2.length≤10000000)∧(t.f.l1.length≤10000000∧t.f.l2.length≤10000000):=
 ⟨xM h.1,xM h.2.1,xM h.2.2.1,xM h.2.2.2.1,xM h.2.2.2.2.1,xM h.2.2.2.2.2⟩
theorem PW{w:World}{v:Value}{L:List UInt32}(h:aT 1 (fun x=>[aW x]) w v L):fQ w 1 v L.length (L.flatMap (fun x=>[aW x])):=Sx.pI h (fun _=>rfl) fun _=>rfl
theorem PX{w:World}{v:Value}{L:List UInt32}(h:aT 1 (fun x=>[aW x]) w v L)(hl:L.length≤10000000) :
  Calls Tryz.prog 183 #[v] w fun e w'=>∃v',e = .returned v'∧Cp 194 1 (fun x=>[aW x]) w.heap.size v' L w'∧Ext w w':=by
 obtain⟨a,c,rfl⟩:=h.shape
 cases a with
 | none =>
  obtain rfl:L=[]:=qO h
  obtain rfl:=jQ h
  refine aiK Tryz.func183 Tryz.ntmps183 fun ac S=>aiG fun _ aU=>adr S 1 [] [(2,.slice none 0 0)] fun ac S=>aiF<|aU _ _<|wp_seq_k fun _ fE=>aiG fun _ gW=>adr S 2 [] [(4,.bool true)] fun ac S=>aiF<|gW _ _<|aiN S<|aiG fun _ lG=>adr S 1 [] [(2,.slice none 0 0)] fun ac S=>aiF<|lG _ _<|Vp.rt ?_
  refine aiH S Tryz.results183 ?_
  exact⟨_,rfl,En _ _ _ _ _,S.E⟩
 | some p =>
  refine aiK Tryz.func183 Tryz.ntmps183 fun ac S=>aiG fun _ aU=>adr S 1 [] [(2,.slice none 0 0)] fun ac S=>aiF<|aU _ _<|wp_seq_k fun _ fE=>aiG fun _ gW=>adr S 2 [] [(4,.bool false)] fun ac S=>aiF<|gW _ _<|aiY S<|wp_skip<|fE _ _<|aiG (fun _ lG=>?_)
  have R:=Sx.Rw.nil S
  refine Sx.newRow S R 5 0 194 1 [] fun ac u v5 E6 X7 R S=>adr S 1 [] [(6,.slice (some p) L.length c)] fun ac S=>Sx.app S R 0 7 rfl kP (PW (h.below S.E)) (by show 0+L.length≤9223372036854775807; omega) (by show(0+L.length)*_≤140737488355328; omega) fun ac u v8 X9 R S=>adr S 1 [] [(2,v8)] fun ac S=>aiF<|lG _ _<|Vp.rt ?_
  refine aiH S Tryz.results183 ?_
  exact⟨_,rfl,Sx.fV (fun _=>rfl) (R.own _ List.mem_cons_self) (Nat.zero_add _) (List.nil_append _),S.E⟩
theorem PY{w:World}{v:Value}{L:List dW}(h:aT 7 dW.cells w v L):fQ w 7 v L.length (L.flatMap dW.cells):=Sx.pI h (fun _=>rfl) fun _=>rfl
theorem Ep{w:World}{v:Value}{L:List dW}(h:aT 7 dW.cells w v L)(hl:L.length≤10000000) :
  Calls Tryz.prog 99 #[v] w fun e w'=>∃v',e = .returned v'∧Cp 62 7 dW.cells w.heap.size v' L w'∧Ext w w':=by
 obtain⟨a,c,rfl⟩:=h.shape
 cases a with
 | none =>
  obtain rfl:L=[]:=qO h
  obtain rfl:=jQ h
  refine aiK Tryz.func99 Tryz.ntmps99 fun ac S=>aiG fun _ aU=>adr S 1 [] [(2,.slice none 0 0)] fun ac S=>aiF<|aU _ _<|wp_seq_k fun _ fE=>aiG fun _ gW=>adr S 2 [] [(4,.bool true)] fun ac S=>aiF<|gW _ _<|aiN S<|aiG fun _ lG=>adr S 1 [] [(2,.slice none 0 0)] fun ac S=>aiF<|lG _ _<|Vp.rt ?_
  refine aiH S Tryz.results99 ?_
  exact⟨_,rfl,En _ _ _ _ _,S.E⟩
 | some p =>
  refine aiK Tryz.func99 Tryz.ntmps99 fun ac S=>aiG fun _ aU=>adr S 1 [] [(2,.slice none 0 0)] fun ac S=>aiF<|aU _ _<|wp_seq_k fun _ fE=>aiG fun _ gW=>adr S 2 [] [(4,.bool false)] fun ac S=>aiF<|gW _ _<|aiY S<|wp_skip<|fE _ _<|aiG (fun _ lG=>?_)
  have R:=Sx.Rw.nil S
  refine Sx.newRow S R 5 0 62 7 [] fun ac u v5 E6 X7 R S=>adr S 1 [] [(6,.slice (some p) L.length c)] fun ac S=>Sx.app S R 0 7 rfl aeF (PY (h.below S.E)) (by show 0+L.length≤9223372036854775807; omega) (by show(0+L.length)*_≤140737488355328; omega) fun ac u v8 X9 R S=>adr S 1 [] [(2,v8)] fun ac S=>aiF<|lG _ _<|Vp.rt ?_
  refine aiH S Tryz.results99 ?_
  exact⟨_,rfl,Sx.fV (fun _=>rfl) (R.own _ List.mem_cons_self) (Nat.zero_add _) (List.nil_append _),S.E⟩
theorem LX{w:World}{v:Value}{L:List fK}(h:aT 5 fK.cells w v L):fQ w 5 v L.length (L.flatMap fK.cells):=Sx.pI h (fun _=>rfl) fun _=>rfl
theorem LY{w:World}{v:Value}{L:List fK}(h:aT 5 fK.cells w v L)(hl:L.length≤10000000) :
  Calls Tryz.prog 143 #[v] w fun e w'=>∃v',e = .returned v'∧Cp 155 5 fK.cells w.heap.size v' L w'∧Ext w w':=by
 obtain⟨a,c,rfl⟩:=h.shape
 cases a with
 | none =>
  obtain rfl:L=[]:=qO h
  obtain rfl:=jQ h
  refine aiK Tryz.func143 Tryz.ntmps143 fun ac S=>aiG fun _ aU=>adr S 1 [] [(2,.slice none 0 0)] fun ac S=>aiF<|aU _ _<|wp_seq_k fun _ fE=>aiG fun _ gW=>adr S 2 [] [(4,.bool true)] fun ac S=>aiF<|gW _ _<|aiN S<|aiG fun _ lG=>adr S 1 [] [(2,.slice none 0 0)] fun ac S=>aiF<|lG _ _<|Vp.rt ?_
  refine aiH S Tryz.results143 ?_
  exact⟨_,rfl,En _ _ _ _ _,S.E⟩
 | some p =>
  refine aiK Tryz.func143 Tryz.ntmps143 fun ac S=>aiG fun _ aU=>adr S 1 [] [(2,.slice none 0 0)] fun ac S=>aiF<|aU _ _<|wp_seq_k fun _ fE=>aiG fun _ gW=>adr S 2 [] [(4,.bool false)] fun ac S=>aiF<|gW _ _<|aiY S<|wp_skip<|fE _ _<|aiG (fun _ lG=>?_)
  have R:=Sx.Rw.nil S
  refine Sx.newRow S R 5 0 155 5 [] fun ac u v5 E6 X7 R S=>adr S 1 [] [(6,.slice (some p) L.length c)] fun ac S=>Sx.app S R 0 7 rfl acL (LX (h.below S.E)) (by show 0+L.length≤9223372036854775807; omega) (by show(0+L.length)*_≤140737488355328; omega) fun ac u v8 X9 R S=>adr S 1 [] [(2,v8)] fun ac S=>aiF<|lG _ _<|Vp.rt ?_
  refine aiH S Tryz.results143 ?_
  exact⟨_,rfl,Sx.fV (fun _=>rfl) (R.own _ List.mem_cons_self) (Nat.zero_add _) (List.nil_append _),S.E⟩
theorem PZ{w:World}{v:Value}{L:List dI}(h:aT 4 dI.cells w v L):fQ w 4 v L.length (L.flatMap dI.cells):=Sx.pI h (fun _=>rfl) fun _=>rfl
theorem Es{w:World}{v:Value}{L:List dI}(h:aT 4 dI.cells w v L)(hl:L.length≤10000000) :
  Calls Tryz.prog 102 #[v] w fun e w'=>∃v',e = .returned v'∧Cp 122 4 dI.cells w.heap.size v' L w'∧Ext w w':=by
 obtain⟨a,c,rfl⟩:=h.shape
 cases a with
 | none =>
  obtain rfl:L=[]:=qO h
  obtain rfl:=jQ h
  refine aiK Tryz.func102 Tryz.ntmps102 fun ac S=>aiG fun _ aU=>adr S 1 [] [(2,.slice none 0 0)] fun ac S=>aiF<|aU _ _<|wp_seq_k fun _ fE=>aiG fun _ gW=>adr S 2 [] [(4,.bool true)] fun ac S=>aiF<|gW _ _<|aiN S<|aiG fun _ lG=>adr S 1 [] [(2,.slice none 0 0)] fun ac S=>aiF<|lG _ _<|Vp.rt ?_
  refine aiH S Tryz.results102 ?_
  exact⟨_,rfl,En _ _ _ _ _,S.E⟩
 | some p =>
  refine aiK Tryz.func102 Tryz.ntmps102 fun ac S=>aiG fun _ aU=>adr S 1 [] [(2,.slice none 0 0)] fun ac S=>aiF<|aU _ _<|wp_seq_k fun _ fE=>aiG fun _ gW=>adr S 2 [] [(4,.bool false)] fun ac S=>aiF<|gW _ _<|aiY S<|wp_skip<|fE _ _<|aiG (fun _ lG=>?_)
  have R:=Sx.Rw.nil S
  refine Sx.newRow S R 5 0 122 4 [] fun ac u v5 E6 X7 R S=>adr S 1 [] [(6,.slice (some p) L.length c)] fun ac S=>Sx.app S R 0 7 rfl aeG (PZ (h.below S.E)) (by show 0+L.length≤9223372036854775807; omega) (by show(0+L.length)*_≤140737488355328; omega) fun ac u v8 X9 R S=>adr S 1 [] [(2,v8)] fun ac S=>aiF<|lG _ _<|Vp.rt ?_
  refine aiH S Tryz.results102 ?_
  exact⟨_,rfl,Sx.fV (fun _=>rfl) (R.own _ List.mem_cons_self) (Nat.zero_add _) (List.nil_append _),S.E⟩
theorem P5{w:World}{v:Value}{L:List Int}(h:aT 1 (fun x=>[zf x]) w v L):fQ w 1 v L.length (L.flatMap (fun x=>[zf x])):=Sx.pI h (fun _=>rfl) fun _=>rfl
theorem P6{w:World}{v:Value}{L:List Int}(h:aT 1 (fun x=>[zf x]) w v L)(hl:L.length≤10000000) :
  Calls Tryz.prog 101 #[v] w fun e w'=>∃v',e = .returned v'∧Cp 3 1 (fun x=>[zf x]) w.heap.size v' L w'∧Ext w w':=by
 obtain⟨a,c,rfl⟩:=h.shape
 cases a with
 | none =>
  obtain rfl:L=[]:=qO h
  obtain rfl:=jQ h
  refine aiK Tryz.func101 Tryz.ntmps101 fun ac S=>aiG fun _ aU=>adr S 1 [] [(2,.slice none 0 0)] fun ac S=>aiF<|aU _ _<|wp_seq_k fun _ fE=>aiG fun _ gW=>adr S 2 [] [(4,.bool true)] fun ac S=>aiF<|gW _ _<|aiN S<|aiG fun _ lG=>adr S 1 [] [(2,.slice none 0 0)] fun ac S=>aiF<|lG _ _<|Vp.rt ?_
  refine aiH S Tryz.results101 ?_
  exact⟨_,rfl,En _ _ _ _ _,S.E⟩
 | some p =>
  refine aiK Tryz.func101 Tryz.ntmps101 fun ac S=>aiG fun _ aU=>adr S 1 [] [(2,.slice none 0 0)] fun ac S=>aiF<|aU _ _<|wp_seq_k fun _ fE=>aiG fun _ gW=>adr S 2 [] [(4,.bool false)] fun ac S=>aiF<|gW _ _<|aiY S<|wp_skip<|fE _ _<|aiG (fun _ lG=>?_)
  have R:=Sx.Rw.nil S
  refine Sx.newRow S R 5 0 3 1 [] fun ac u v5 E6 X7 R S=>adr S 1 [] [(6,.slice (some p) L.length c)] fun ac S=>Sx.app S R 0 7 rfl LW (P5 (h.below S.E)) (by show 0+L.length≤9223372036854775807; omega) (by show(0+L.length)*_≤140737488355328; omega) fun ac u v8 X9 R S=>adr S 1 [] [(2,v8)] fun ac S=>aiF<|lG _ _<|Vp.rt ?_
  refine aiH S Tryz.results101 ?_
  exact⟨_,rfl,Sx.fV (fun _=>rfl) (R.own _ List.mem_cons_self) (Nat.zero_add _) (List.nil_append _),S.E⟩
theorem iF{w:World}{n:Bool}{v:Value}{l:List UInt32}(h:aT 1 wC w v l)(hl:l.length≤10000000) :
  Calls Tryz.prog 141 #[.agg #[.bool n,v]] w fun e w'=>∃a c,e = .returned (.agg #[.bool n,.slice a l.length c])∧Cp 194 1 wC w.heap.size (.slice a l.length c) l w'∧Ext w w':=by
 obtain⟨a0,c0,rfl⟩:=h.shape
 refine aiK Tryz.func141 Tryz.ntmps141 fun ac S=>aiG fun _ aU=>aiJ S 1 [.bool n,.slice a0 l.length c0] fun ac u b2 E3 hb4 S=>aiJ S 2 [.bool false,.slice none 0 0] fun ac u b5 E6 hb7 S=>aiF<|aU _ _<|wp_seq_k (fun _ dP=>?_)
 have y0:=S.E.size
 have z0:=(S.bx 0).1
 refine aiV S 5 [(7,fun v w1=>Cp 194 1 wC u.heap.size v l w1)] (fun r=>[.mem 1 0,.mem 1 1]) (fun x=>[x 7]) (fun x=>[(_,_,true,x 7,7)]) [[]] (fun x=>[(4,.bool n),(7,x 7)]) ⟨fun _ _ _ k h=>h.ext k,trivial⟩ (fun x=>⟨by intro u hC g F; exact(PX (h.below (Ext.trans' S.E hC)) hl).mono fun e w2 h=>by obtain⟨y,rfl,hx,hb⟩:=h; exact⟨_,rfl,hx.mono hC.size,hb⟩,trivial⟩) (fun ac u x E9 F S=>?_)
 obtain⟨F7,-⟩:=F
 obtain⟨a1,c1,e1⟩:=Cp.shape F7
 rw[e1]at S F7
 refine adr S 1 [] [(8,.agg #[.bool n,.slice a1 l.length c1])] fun ac S=>aiL S 0 (off:=0) (cs:=[.bool n,.slice a1 l.length c1]) rfl (fun u C10 S=>?_)
 have P7:=iE.ch F7 C10 (by omega)
 refine aiF<|dP _ _<|Vp.rt ?_
 refine aiS S 0 Tryz.results141 rfl (v := .agg #[.bool n,.slice a1 l.length c1]) ?_
 exact⟨a1,c1,rfl,Cp.mono P7 (by omega),S.E⟩
theorem Bq{base:Nat}{r:bM}{w:World}(h1:Cp 194 1 wC base r.s1 r.l1 w)(h2:Cp 194 1 wC base r.s2 r.l2 w):r.cp base w:=Sx.On.imp (Sx.On.and h1 h2) fun _ h=>⟨⟨Eo h.1.1,Eo h.2.1⟩,h.1.2,h.2.2⟩
theorem acM{base:Nat}{t:aV}{w:World}(h0:t.a.cp base w)(h1:t.b.cp base w)(h2:t.c.cp base w)(h3:t.d.cp base w)(h4:t.e.cp base w)(h5:t.f.cp base w):t.cp base w:=Sx.On.and h0 (Sx.On.and h1 (Sx.On.and h2 (Sx.On.and h3 (Sx.On.and h4 h5))))
theorem yH{w:World}{t:aV}(h:t.ok w)(hl:t.lim) :
  Calls Tryz.prog 98 #[t.v] w fun e w'=>∃t':aV,e = .returned t'.v∧t'.cp w.heap.size w'∧t'.strip=t.strip∧Ext w w':=by
 obtain⟨h0,h1,h2,h3,h4,h5⟩:=h
 obtain⟨hl0,hl1,hl2,hl3,hl4,hl5⟩:=aaD hl
 refine aiK Tryz.func98 Tryz.ntmps98 fun ac S=>aiG fun _ aU=>aiJ S 1 t.cells fun ac u b2 E3 hb4 S=>aiJ S 2 Sx.za fun ac u b5 E6 hb7 S=>aiF<|aU _ _<|wp_seq_k fun _ dP=>aiG fun _ gB=>adr S 6 [] [(5,.pointer (some ⟨b2,0,none⟩)),(6,.pointer (some ⟨b2,4,none⟩)),(7,.pointer (some ⟨b2,8,none⟩)),(8,.pointer (some ⟨b2,12,none⟩)),(9,.pointer (some ⟨b2,16,none⟩)),(10,.pointer (some ⟨b2,20,none⟩))] fun ac S=>Sx.news S 11 6 [.pointer (some ⟨b2,0,none⟩),.pointer (some ⟨b2,4,none⟩),.pointer (some ⟨b2,8,none⟩),.pointer (some ⟨b2,12,none⟩),.pointer (some ⟨b2,16,none⟩),.pointer (some ⟨b2,20,none⟩)] fun ac u b10 sF PL S=>adr S 2 [] [(12,.int .i64 6),(13,.int .i64 0)] fun ac S=>aiF<|gB _ _<|wp_block<|wp_loop_rounds 7 ?_
 rw[rounds_succ]
 refine aiG fun _ fZ=>adr S 1 [] [(14,.bool true)] fun ac S=>aiF<|fZ _ _<|wp_seq_k fun _ fU=>aiN S<|wp_skip<|fU _ _<|wp_seq_k fun _ fH=>wp_block<|aiG fun _ iR=>adr S 3 [.mem 0 0] [(4,.pointer (some ⟨b2,0,none⟩))] fun ac S=>aiF (iR _ _ ?_)
 have y0:=S.E.size
 have z1:=(S.bx 1).1
 have z2:=(S.bx 2).1
 refine Sx.hoist [0] 11<|Sx.uY S 11 [(22,fun v w1=>∃a c,v = .agg #[.bool t.a.n1,.slice a t.a.l1.length c]∧Cp 194 1 wC u.heap.size (.slice a t.a.l1.length c) t.a.l1 w1),(27,fun v w1=>∃a c,v = .agg #[.bool t.a.n2,.slice a t.a.l2.length c]∧Cp 194 1 wC u.heap.size (.slice a t.a.l2.length c) t.a.l2 w1)] (fun r=>[.mem 2 0,.mem 2 2]) (fun x=>[x 22,x 27]) (fun x=>[(_,_,true,x 22,22),(_,_,true,x 27,27)]) [[],[]] (fun x=>[(17,.pointer (some ⟨b2,0,none⟩)),(22,x 22),(27,x 27)]) ⟨fun _ _ _ k h=>by obtain⟨a,c,e,h⟩:=h; exact⟨a,c,e,h.ext k⟩,fun _ _ _ k h=>by obtain⟨a,c,e,h⟩:=h; exact⟨a,c,e,h.ext k⟩,trivial⟩ (fun x=>⟨by intro u hC g F; exact(iF (n:=t.a.n1) (v:=t.a.s1) (l:=t.a.l1) ((eG (f:=aW) h0.1).below (Ext.trans' S.E hC)) (hl0.1)).mono fun e w2 h=>by obtain⟨a,c,rfl,hx,hb⟩:=h; exact⟨_,rfl,⟨a,c,rfl,hx.mono hC.size⟩,hb⟩,by intro u hC g F; exact(iF (n:=t.a.n2) (v:=t.a.s2) (l:=t.a.l2) ((eG (f:=aW) h0.2).below (Ext.trans' S.E hC)) (hl0.2)).mono fun e w2 h=>by obtain⟨a,c,rfl,hx,hb⟩:=h; exact⟨_,rfl,⟨a,c,rfl,hx.mono hC.size⟩,hb⟩,trivial⟩) (fun ac u x LZ F S=>?_)
 obtain⟨Et,F27,-⟩:=F
 obtain⟨a01,c01,e01,Et⟩:=Et
 rw[e01]at S
 obtain⟨a02,c02,e02,F27⟩:=F27
 rw[e02]at S
 refine adr S 2 [] [(28,.agg #[.bool t.a.n1,.slice a01 t.a.l1.length c01,.bool t.a.n2,.slice a02 t.a.l2.length c02]),(29,.pointer (some ⟨b2,0,none⟩))] fun ac S=>aiL S 2 (off:=0) (cs:=[.bool t.a.n1,.slice a01 t.a.l1.length c01,.bool t.a.n2,.slice a02 t.a.l2.length c02]) rfl (fun u Xk S=>?_)
 have Dx:=iE.ch Et Xk (by omega)
 have L6:=iE.ch F27 Xk (by omega)
 have G21:=(Bq (r:=⟨t.a.n1,a01,c01,t.a.l1,t.a.n2,a02,c02,t.a.l2⟩) Dx L6)
 refine aiF<|fH _ _<|Vp.region<|adr S 2 [] [(13,.int .i64 1)] fun ac S=>aiF ?_
 show Code.rounds _ _ _ 6 _ _
 rw[rounds_succ]
 refine aiG fun _ jM=>adr S 1 [] [(14,.bool true)] fun ac S=>aiF<|jM _ _<|wp_seq_k fun _ oJ=>aiN S<|wp_skip<|oJ _ _<|wp_seq_k fun _ kK=>wp_block<|aiG fun _ wB=>adr S 3 [.mem 0 1] [(4,.pointer (some ⟨b2,4,none⟩))] fun ac S=>aiF (wB _ _ ?_)
 have y1:=S.E.size
 have z1:=(S.bx 1).1
 have z2:=(S.bx 2).1
 refine Sx.hoist [0] 11<|Sx.uY S 11 [(22,fun v w1=>∃a c,v = .agg #[.bool t.b.n1,.slice a t.b.l1.length c]∧Cp 194 1 wC u.heap.size (.slice a t.b.l1.length c) t.b.l1 w1),(27,fun v w1=>∃a c,v = .agg #[.bool t.b.n2,.slice a t.b.l2.length c]∧Cp 194 1 wC u.heap.size (.slice a t.b.l2.length c) t.b.l2 w1)] (fun r=>[.mem 2 4,.mem 2 6]) (fun x=>[x 22,x 27]) (fun x=>[(_,_,true,x 22,22),(_,_,true,x 27,27)]) [[],[]] (fun x=>[(17,.pointer (some ⟨b2,4,none⟩)),(22,x 22),(27,x 27)]) ⟨fun _ _ _ k h=>by obtain⟨a,c,e,h⟩:=h; exact⟨a,c,e,h.ext k⟩,fun _ _ _ k h=>by obtain⟨a,c,e,h⟩:=h; exact⟨a,c,e,h.ext k⟩,trivial⟩ (fun x=>⟨by intro u hC g F; exact(iF (n:=t.b.n1) (v:=t.b.s1) (l:=t.b.l1) ((eG (f:=aW) h1.1).below (Ext.trans' S.E hC)) (hl1.1)).mono fun e w2 h=>by obtain⟨a,c,rfl,hx,hb⟩:=h; exact⟨_,rfl,⟨a,c,rfl,hx.mono hC.size⟩,hb⟩,by intro u hC g F; exact(iF (n:=t.b.n2) (v:=t.b.s2) (l:=t.b.l2) ((eG (f:=aW) h1.2).below (Ext.trans' S.E hC)) (hl1.2)).mono fun e w2 h=>by obtain⟨a,c,rfl,hx,hb⟩:=h; exact⟨_,rfl,⟨a,c,rfl,hx.mono hC.size⟩,hb⟩,trivial⟩) (fun ac u x E26 F S=>?_)
 obtain⟨Et,F27,-⟩:=F
 obtain⟨a11,c11,e11,Et⟩:=Et
 rw[e11]at S
 obtain⟨a12,c12,e12,F27⟩:=F27
 rw[e12]at S
 refine adr S 2 [] [(28,.agg #[.bool t.b.n1,.slice a11 t.b.l1.length c11,.bool t.b.n2,.slice a12 t.b.l2.length c12]),(29,.pointer (some ⟨b2,4,none⟩))] fun ac S=>aiL S 2 (off:=4) (cs:=[.bool t.b.n1,.slice a11 t.b.l1.length c11,.bool t.b.n2,.slice a12 t.b.l2.length c12]) rfl (fun u C27 S=>?_)
 have XW:=iE.ch (G21.ext E26) C27 (by omega)
 have P8:=iE.ch Et C27 (by omega)
 have P9:=iE.ch F27 C27 (by omega)
 have G31:=(Bq (r:=⟨t.b.n1,a11,c11,t.b.l1,t.b.n2,a12,c12,t.b.l2⟩) P8 P9)
 refine aiF<|kK _ _<|Vp.region<|adr S 2 [] [(13,.int .i64 2)] fun ac S=>aiF ?_
 show Code.rounds _ _ _ 5 _ _
 rw[rounds_succ]
 refine aiG fun _ kM=>adr S 1 [] [(14,.bool true)] fun ac S=>aiF<|kM _ _<|wp_seq_k fun _ lW=>aiN S<|wp_skip<|lW _ _<|wp_seq_k fun _ uQ=>wp_block<|aiG fun _ oK=>adr S 3 [.mem 0 2] [(4,.pointer (some ⟨b2,8,none⟩))] fun ac S=>aiF (oK _ _ ?_)
 have y2:=S.E.size
 have z1:=(S.bx 1).1
 have z2:=(S.bx 2).1
 refine Sx.hoist [0] 11<|Sx.uY S 11 [(22,fun v w1=>∃a c,v = .agg #[.bool t.c.n1,.slice a t.c.l1.length c]∧Cp 194 1 wC u.heap.size (.slice a t.c.l1.length c) t.c.l1 w1),(27,fun v w1=>∃a c,v = .agg #[.bool t.c.n2,.slice a t.c.l2.length c]∧Cp 194 1 wC u.heap.size (.slice a t.c.l2.length c) t.c.l2 w1)] (fun r=>[.mem 2 8,.mem 2 10]) (fun x=>[x 22,x 27]) (fun x=>[(_,_,true,x 22,22),(_,_,true,x 27,27)]) [[],[]] (fun x=>[(17,.pointer (some ⟨b2,8,none⟩)),(22,x 22),(27,x 27)]) ⟨fun _ _ _ k h=>by obtain⟨a,c,e,h⟩:=h; exact⟨a,c,e,h.ext k⟩,fun _ _ _ k h=>by obtain⟨a,c,e,h⟩:=h; exact⟨a,c,e,h.ext k⟩,trivial⟩ (fun x=>⟨by intro u hC g F; exact(iF (n:=t.c.n1) (v:=t.c.s1) (l:=t.c.l1) ((eG (f:=aW) h2.1).below (Ext.trans' S.E hC)) (hl2.1)).mono fun e w2 h=>by obtain⟨a,c,rfl,hx,hb⟩:=h; exact⟨_,rfl,⟨a,c,rfl,hx.mono hC.size⟩,hb⟩,by intro u hC g F; exact(iF (n:=t.c.n2) (v:=t.c.s2) (l:=t.c.l2) ((eG (f:=aW) h2.2).below (Ext.trans' S.E hC)) (hl2.2)).mono fun e w2 h=>by obtain⟨a,c,rfl,hx,hb⟩:=h; exact⟨_,rfl,⟨a,c,rfl,hx.mono hC.size⟩,hb⟩,trivial⟩) (fun ac u x E36 F S=>?_)
 obtain⟨Et,F27,-⟩:=F
 obtain⟨a21,c21,e21,Et⟩:=Et
 rw[e21]at S
 obtain⟨a22,Hy,e22,F27⟩:=F27
 rw[e22]at S
 refine adr S 2 [] [(28,.agg #[.bool t.c.n1,.slice a21 t.c.l1.length c21,.bool t.c.n2,.slice a22 t.c.l2.length Hy]),(29,.pointer (some ⟨b2,8,none⟩))] fun ac S=>aiL S 2 (off:=8) (cs:=[.bool t.c.n1,.slice a21 t.c.l1.length c21,.bool t.c.n2,.slice a22 t.c.l2.length Hy]) rfl (fun u C37 S=>?_)
 have Xx:=iE.ch (XW.ext E36) C37 (by omega)
 have acN:=iE.ch (G31.ext E36) C37 (by omega)
 have XY:=iE.ch Et C37 (by omega)
 have U5:=iE.ch F27 C37 (by omega)
 have G42:=(Bq (r:=⟨t.c.n1,a21,c21,t.c.l1,t.c.n2,a22,Hy,t.c.l2⟩) XY U5)
 refine aiF<|uQ _ _<|Vp.region<|adr S 2 [] [(13,.int .i64 3)] fun ac S=>aiF ?_
 show Code.rounds _ _ _ 4 _ _
 rw[rounds_succ]
 refine aiG fun _ tH=>adr S 1 [] [(14,.bool true)] fun ac S=>aiF<|tH _ _<|wp_seq_k fun _ wE=>aiN S<|wp_skip<|wE _ _<|wp_seq_k fun _ Bv=>wp_block<|aiG fun _ zU=>adr S 3 [.mem 0 3] [(4,.pointer (some ⟨b2,12,none⟩))] fun ac S=>aiF (zU _ _ ?_)
 have y3:=S.E.size
 have z1:=(S.bx 1).1
 have z2:=(S.bx 2).1
 refine Sx.hoist [0] 11<|Sx.uY S 11 [(22,fun v w1=>∃a c,v = .agg #[.bool t.d.n1,.slice a t.d.l1.length c]∧Cp 194 1 wC u.heap.size (.slice a t.d.l1.length c) t.d.l1 w1),(27,fun v w1=>∃a c,v = .agg #[.bool t.d.n2,.slice a t.d.l2.length c]∧Cp 194 1 wC u.heap.size (.slice a t.d.l2.length c) t.d.l2 w1)] (fun r=>[.mem 2 12,.mem 2 14]) (fun x=>[x 22,x 27]) (fun x=>[(_,_,true,x 22,22),(_,_,true,x 27,27)]) [[],[]] (fun x=>[(17,.pointer (some ⟨b2,12,none⟩)),(22,x 22),(27,x 27)]) ⟨fun _ _ _ k h=>by obtain⟨a,c,e,h⟩:=h; exact⟨a,c,e,h.ext k⟩,fun _ _ _ k h=>by obtain⟨a,c,e,h⟩:=h; exact⟨a,c,e,h.ext k⟩,trivial⟩ (fun x=>⟨by intro u hC g F; exact(iF (n:=t.d.n1) (v:=t.d.s1) (l:=t.d.l1) ((eG (f:=aW) h3.1).below (Ext.trans' S.E hC)) (hl3.1)).mono fun e w2 h=>by obtain⟨a,c,rfl,hx,hb⟩:=h; exact⟨_,rfl,⟨a,c,rfl,hx.mono hC.size⟩,hb⟩,by intro u hC g F; exact(iF (n:=t.d.n2) (v:=t.d.s2) (l:=t.d.l2) ((eG (f:=aW) h3.2).below (Ext.trans' S.E hC)) (hl3.2)).mono fun e w2 h=>by obtain⟨a,c,rfl,hx,hb⟩:=h; exact⟨_,rfl,⟨a,c,rfl,hx.mono hC.size⟩,hb⟩,trivial⟩) (fun ac u x E47 F S=>?_)
 obtain⟨Et,F27,-⟩:=F
 obtain⟨a31,c31,e31,Et⟩:=Et
 rw[e31]at S
 obtain⟨a32,c32,e32,F27⟩:=F27
 rw[e32]at S
 refine adr S 2 [] [(28,.agg #[.bool t.d.n1,.slice a31 t.d.l1.length c31,.bool t.d.n2,.slice a32 t.d.l2.length c32]),(29,.pointer (some ⟨b2,12,none⟩))] fun ac S=>aiL S 2 (off:=12) (cs:=[.bool t.d.n1,.slice a31 t.d.l1.length c31,.bool t.d.n2,.slice a32 t.d.l2.length c32]) rfl (fun u C48 S=>?_)
 have aaE:=iE.ch (Xx.ext E47) C48 (by omega)
 have acO:=iE.ch (acN.ext E47) C48 (by omega)
 have Xz:=iE.ch (G42.ext E47) C48 (by omega)
 have XA:=iE.ch Et C48 (by omega)
 have XB:=iE.ch F27 C48 (by omega)
 have G54:=(Bq (r:=⟨t.d.n1,a31,c31,t.d.l1,t.d.n2,a32,c32,t.d.l2⟩) XA XB)
 refine aiF<|Bv _ _<|Vp.region<|adr S 2 [] [(13,.int .i64 4)] fun ac S=>aiF ?_
 show Code.rounds _ _ _ 3 _ _
 rw[rounds_succ]
 refine aiG fun _ D9=>adr S 1 [] [(14,.bool true)] fun ac S=>aiF<|D9 _ _<|wp_seq_k fun _ Ea=>aiN S<|wp_skip<|Ea _ _<|wp_seq_k fun _ JC=>wp_block<|aiG fun _ acJ=>adr S 3 [.mem 0 4] [(4,.pointer (some ⟨b2,16,none⟩))] fun ac S=>aiF (acJ _ _ ?_)
 have y4:=S.E.size
 have z1:=(S.bx 1).1
 have z2:=(S.bx 2).1
 refine Sx.hoist [0] 11<|Sx.uY S 11 [(22,fun v w1=>∃a c,v = .agg #[.bool t.e.n1,.slice a t.e.l1.length c]∧Cp 194 1 wC u.heap.size (.slice a t.e.l1.length c) t.e.l1 w1),(27,fun v w1=>∃a c,v = .agg #[.bool t.e.n2,.slice a t.e.l2.length c]∧Cp 194 1 wC u.heap.size (.slice a t.e.l2.length c) t.e.l2 w1)] (fun r=>[.mem 2 16,.mem 2 18]) (fun x=>[x 22,x 27]) (fun x=>[(_,_,true,x 22,22),(_,_,true,x 27,27)]) [[],[]] (fun x=>[(17,.pointer (some ⟨b2,16,none⟩)),(22,x 22),(27,x 27)]) ⟨fun _ _ _ k h=>by obtain⟨a,c,e,h⟩:=h; exact⟨a,c,e,h.ext k⟩,fun _ _ _ k h=>by obtain⟨a,c,e,h⟩:=h; exact⟨a,c,e,h.ext k⟩,trivial⟩ (fun x=>⟨by intro u hC g F; exact(iF (n:=t.e.n1) (v:=t.e.s1) (l:=t.e.l1) ((eG (f:=aW) h4.1).below (Ext.trans' S.E hC)) (hl4.1)).mono fun e w2 h=>by obtain⟨a,c,rfl,hx,hb⟩:=h; exact⟨_,rfl,⟨a,c,rfl,hx.mono hC.size⟩,hb⟩,by intro u hC g F; exact(iF (n:=t.e.n2) (v:=t.e.s2) (l:=t.e.l2) ((eG (f:=aW) h4.2).below (Ext.trans' S.E hC)) (hl4.2)).mono fun e w2 h=>by obtain⟨a,c,rfl,hx,hb⟩:=h; exact⟨_,rfl,⟨a,c,rfl,hx.mono hC.size⟩,hb⟩,trivial⟩) (fun ac u x XC F S=>?_)
 obtain⟨Et,F27,-⟩:=F
 obtain⟨a41,c41,e41,Et⟩:=Et
 rw[e41]at S
 obtain⟨a42,c42,e42,F27⟩:=F27
 rw[e42]at S
 refine adr S 2 [] [(28,.agg #[.bool t.e.n1,.slice a41 t.e.l1.length c41,.bool t.e.n2,.slice a42 t.e.l2.length c42]),(29,.pointer (some ⟨b2,16,none⟩))] fun ac S=>aiL S 2 (off:=16) (cs:=[.bool t.e.n1,.slice a41 t.e.l1.length c41,.bool t.e.n2,.slice a42 t.e.l2.length c42]) rfl (fun u C60 S=>?_)
 have acP:=iE.ch (aaE.ext XC) C60 (by omega)
 have acQ:=iE.ch (acO.ext XC) C60 (by omega)
 have agF:=iE.ch (Xz.ext XC) C60 (by omega)
 have agG:=iE.ch (G54.ext XC) C60 (by omega)
 have agH:=iE.ch Et C60 (by omega)
 have agI:=iE.ch F27 C60 (by omega)
 have G67:=(Bq (r:=⟨t.e.n1,a41,c41,t.e.l1,t.e.n2,a42,c42,t.e.l2⟩) agH agI)
 refine aiF<|JC _ _<|Vp.region<|adr S 2 [] [(13,.int .i64 5)] fun ac S=>aiF ?_
 show Code.rounds _ _ _ 2 _ _
 rw[rounds_succ]
 refine aiG fun _ acB=>adr S 1 [] [(14,.bool true)] fun ac S=>aiF<|acB _ _<|wp_seq_k fun _ XJ=>aiN S<|wp_skip<|XJ _ _<|wp_seq_k fun _ acC=>wp_block<|aiG fun _ PG=>adr S 3 [.mem 0 5] [(4,.pointer (some ⟨b2,20,none⟩))] fun ac S=>aiF (PG _ _ ?_)
 have y5:=S.E.size
 have z1:=(S.bx 1).1
 have z2:=(S.bx 2).1
 refine Sx.hoist [0] 11<|Sx.uY S 11 [(22,fun v w1=>∃a c,v = .agg #[.bool t.f.n1,.slice a t.f.l1.length c]∧Cp 194 1 wC u.heap.size (.slice a t.f.l1.length c) t.f.l1 w1),(27,fun v w1=>∃a c,v = .agg #[.bool t.f.n2,.slice a t.f.l2.length c]∧Cp 194 1 wC u.heap.size (.slice a t.f.l2.length c) t.f.l2 w1)] (fun r=>[.mem 2 20,.mem 2 22]) (fun x=>[x 22,x 27]) (fun x=>[(_,_,true,x 22,22),(_,_,true,x 27,27)]) [[],[]] (fun x=>[(17,.pointer (some ⟨b2,20,none⟩)),(22,x 22),(27,x 27)]) ⟨fun _ _ _ k h=>by obtain⟨a,c,e,h⟩:=h; exact⟨a,c,e,h.ext k⟩,fun _ _ _ k h=>by obtain⟨a,c,e,h⟩:=h; exact⟨a,c,e,h.ext k⟩,trivial⟩ (fun x=>⟨by intro u hC g F; exact(iF (n:=t.f.n1) (v:=t.f.s1) (l:=t.f.l1) ((eG (f:=aW) h5.1).below (Ext.trans' S.E hC)) (hl5.1)).mono fun e w2 h=>by obtain⟨a,c,rfl,hx,hb⟩:=h; exact⟨_,rfl,⟨a,c,rfl,hx.mono hC.size⟩,hb⟩,by intro u hC g F; exact(iF (n:=t.f.n2) (v:=t.f.s2) (l:=t.f.l2) ((eG (f:=aW) h5.2).below (Ext.trans' S.E hC)) (hl5.2)).mono fun e w2 h=>by obtain⟨a,c,rfl,hx,hb⟩:=h; exact⟨_,rfl,⟨a,c,rfl,hx.mono hC.size⟩,hb⟩,trivial⟩) (fun ac u x E72 F S=>?_)
 obtain⟨Et,F27,-⟩:=F
 obtain⟨a51,c51,e51,Et⟩:=Et
 rw[e51]at S
 obtain⟨a52,c52,e52,F27⟩:=F27
 rw[e52]at S
 refine adr S 2 [] [(28,.agg #[.bool t.f.n1,.slice a51 t.f.l1.length c51,.bool t.f.n2,.slice a52 t.f.l2.length c52]),(29,.pointer (some ⟨b2,20,none⟩))] fun ac S=>aiL S 2 (off:=20) (cs:=[.bool t.f.n1,.slice a51 t.f.l1.length c51,.bool t.f.n2,.slice a52 t.f.l2.length c52]) rfl (fun u C73 S=>?_)
 have agJ:=iE.ch (acP.ext E72) C73 (by omega)
 have agK:=iE.ch (acQ.ext E72) C73 (by omega)
 have agL:=iE.ch (agF.ext E72) C73 (by omega)
 have agM:=iE.ch (agG.ext E72) C73 (by omega)
 have agN:=iE.ch (G67.ext E72) C73 (by omega)
 have agO:=iE.ch Et C73 (by omega)
 have agP:=iE.ch F27 C73 (by omega)
 have G81:=(Bq (r:=⟨t.f.n1,a51,c51,t.f.l1,t.f.n2,a52,c52,t.f.l2⟩) agO agP)
 refine aiF<|acC _ _<|Vp.region<|adr S 2 [] [(13,.int .i64 6)] fun ac S=>aiF ?_
 show Code.rounds _ _ _ 1 _ _
 rw[rounds_succ]
 refine aiG fun _ PK=>adr S 1 [] [(14,.bool false)] fun ac S=>aiF<|PK _ _<|wp_seq_k fun _ aav=>aiY S<|wp_exit<|dP _ _<|aiG fun _ acE=>adr S 1 [.mem 2 0] [(31,.agg #[.bool t.a.n1,.slice a01 t.a.l1.length c01,.bool t.a.n2,.slice a02 t.a.l2.length c02,.bool t.b.n1,.slice a11 t.b.l1.length c11,.bool t.b.n2,.slice a12 t.b.l2.length c12,.bool t.c.n1,.slice a21 t.c.l1.length c21,.bool t.c.n2,.slice a22 t.c.l2.length Hy,.bool t.d.n1,.slice a31 t.d.l1.length c31,.bool t.d.n2,.slice a32 t.d.l2.length c32,.bool t.e.n1,.slice a41 t.e.l1.length c41,.bool t.e.n2,.slice a42 t.e.l2.length c42,.bool t.f.n1,.slice a51 t.f.l1.length c51,.bool t.f.n2,.slice a52 t.f.l2.length c52])] fun ac S=>aiL S 1 (off:=0) (cs:=[.bool t.a.n1,.slice a01 t.a.l1.length c01,.bool t.a.n2,.slice a02 t.a.l2.length c02,.bool t.b.n1,.slice a11 t.b.l1.length c11,.bool t.b.n2,.slice a12 t.b.l2.length c12,.bool t.c.n1,.slice a21 t.c.l1.length c21,.bool t.c.n2,.slice a22 t.c.l2.length Hy,.bool t.d.n1,.slice a31 t.d.l1.length c31,.bool t.d.n2,.slice a32 t.d.l2.length c32,.bool t.e.n1,.slice a41 t.e.l1.length c41,.bool t.e.n2,.slice a42 t.e.l2.length c42,.bool t.f.n1,.slice a51 t.f.l1.length c51,.bool t.f.n2,.slice a52 t.f.l2.length c52]) rfl (fun u C85 S=>?_)
 have acd:=iE.ch agJ C85 (by omega)
 have ace:=iE.ch agK C85 (by omega)
 have acf:=iE.ch agL C85 (by omega)
 have acg:=iE.ch agM C85 (by omega)
 have agQ:=iE.ch agN C85 (by omega)
 have agR:=iE.ch G81 C85 (by omega)
 refine aiF<|acE _ _<|Vp.rt ?_
 refine aiS S 1 Tryz.results98 rfl (v := .agg #[.bool t.a.n1,.slice a01 t.a.l1.length c01,.bool t.a.n2,.slice a02 t.a.l2.length c02,.bool t.b.n1,.slice a11 t.b.l1.length c11,.bool t.b.n2,.slice a12 t.b.l2.length c12,.bool t.c.n1,.slice a21 t.c.l1.length c21,.bool t.c.n2,.slice a22 t.c.l2.length Hy,.bool t.d.n1,.slice a31 t.d.l1.length c31,.bool t.d.n2,.slice a32 t.d.l2.length c32,.bool t.e.n1,.slice a41 t.e.l1.length c41,.bool t.e.n2,.slice a42 t.e.l2.length c42,.bool t.f.n1,.slice a51 t.f.l1.length c51,.bool t.f.n2,.slice a52 t.f.l2.length c52]) ?_
 exact⟨⟨⟨t.a.n1,a01,c01,t.a.l1,t.a.n2,a02,c02,t.a.l2⟩,⟨t.b.n1,a11,c11,t.b.l1,t.b.n2,a12,c12,t.b.l2⟩,⟨t.c.n1,a21,c21,t.c.l1,t.c.n2,a22,Hy,t.c.l2⟩,⟨t.d.n1,a31,c31,t.d.l1,t.d.n2,a32,c32,t.d.l2⟩,⟨t.e.n1,a41,c41,t.e.l1,t.e.n2,a42,c42,t.e.l2⟩,⟨t.f.n1,a51,c51,t.f.l1,t.f.n2,a52,c52,t.f.l2⟩⟩,rfl,acM (Bo acd (by omega)) (Bo ace (by omega)) (Bo acf (by omega)) (Bo acg (by omega)) (Bo agQ (by omega)) (Bo agR (by omega)),rfl,S.E⟩
end Go.Proofs.YtfmkkemfhjkajaaGreatDoor
