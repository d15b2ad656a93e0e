/- Copies of nodes in new memory: package node. -/
import Derived.Test.YtfmkkemfhjkajaaGreatDoorHoist
import Derived.Test.YtfmkkemfhjkajaaGreatDoorPk25
set_option maxHeartbeats 3200000
set_option maxRecDepth 100000
namespace Go.Proofs.YtfmkkemfhjkajaaGreatDoor
open Go.RowKit
variable{α:Type}{K:Nat}
set_option linter.unusedVariables false
theorem tySeg:SliceTy Tryz.prog 34 62 (.agg #[.int .i64 0,.int .i64 0,.int .i64 0,.int .i64 0,.int .i64 0,.int .i64 0,.int .i64 0]) 7 56:=⟨Tryz.underlying34,info_parts (by kernel_rfl),rfl,by decide⟩
theorem tyStop:SliceTy Tryz.prog 97 155 (.agg #[.int .i64 0,.int .u8 0,.int .u8 0,.int .u8 0,.int .u8 0]) 5 16:=⟨Tryz.underlying97,info_parts (by kernel_rfl),rfl,by decide⟩
theorem tyPix:SliceTy Tryz.prog 39 122 (.agg #[.int .u8 0,.int .u8 0,.int .u8 0,.int .u8 0]) 4 4:=⟨Tryz.underlying39,info_parts (by kernel_rfl),rfl,by decide⟩
theorem tyInt:SliceTy Tryz.prog 36 3 (.int .i64 0) 1 8:=⟨Tryz.underlying36,info_parts (by kernel_rfl),rfl,by decide⟩
theorem tyPaint:SliceTy Tryz.prog 35 99 (.agg (Sx.L [.int .i64 0,.int .u8 0,.int .u8 0,.int .u8 0,.int .u8 0,.int .i64 0,.int .i64 0,.int .i64 0,.int .i64 0,.int .i64 0,.slice none 0 0,.int .i64 0,.int .i64 0,.int .i64 0,.slice none 0 0,.int .i64 0]++Sx.za).toArray) 40 520:=⟨Tryz.underlying35,info_parts (by kernel_rfl),rfl,by decide⟩
/-- A copy of a row in memory from base on. -/
def Cp(e:TypeId)(k:Nat)(f:α→List Value)(base:Nat)(v:Value)(L:List α)(w:World):Prop:=Sx.Dep base (Sx.RowT e k f base v L) w
theorem Cp.ext{e:TypeId}{k:Nat}{f:α→List Value}{base:Nat}{v:Value}{L:List α}{w w':World}(h:Cp e k f base v L w)(hE:Ext w w'):Cp e k f base v L w':=Sx.On.ext h hE
theorem Cp.mono{e:TypeId}{k:Nat}{f:α→List Value}{base b0:Nat}{v:Value}{L:List α}{w:World}(h:Cp e k f base v L w)(hb:b0≤base):Cp e k f b0 v L w:=Sx.On.imp (Sx.Dep.le h hb) fun _ h=>h.le hb
theorem Cp.shape{e:TypeId}{k:Nat}{f:α→List Value}{base:Nat}{v:Value}{L:List α}{w:World}(h:Cp e k f base v L w):∃a c,v = .slice a L.length c:=(Sx.On.self h).1.shape
theorem cp_nil(e:TypeId)(k:Nat)(f:α→List Value)(base:Nat)(w:World):Cp e k f base (.slice none 0 0) [] w:=fun w' _ _=>⟨rowN_nil k f w',.inl rfl⟩
theorem rowN_none{k:Nat}{f:α→List Value}{w:World}{n c:Nat}{L:List α}(h:IsRowN k f w (.slice none n c) L):L=[]:=by
 obtain⟨a,cap,e,hm,h⟩:=h
 simp only[Value.slice.injEq]at e
 obtain⟨rfl,rfl,rfl⟩:=e
 rcases h with ⟨h,_⟩ | ⟨b,o,h,_⟩
 ·exact h
 ·cases h
theorem rowN_none_cap{k:Nat}{f:α→List Value}{w:World}{n c:Nat}{L:List α}(h:IsRowN k f w (.slice none n c) L):c=0:=by
 obtain⟨a,cap,e,hm,h⟩:=h
 simp only[Value.slice.injEq]at e
 obtain⟨rfl,rfl,rfl⟩:=e
 rcases h with ⟨_,h⟩ | ⟨b,o,h,_⟩
 ·exact h rfl
 ·cases h
theorem Dep.ch{base b:Nat}{F:World→Prop}{w w':World}(h:Sx.Dep base F w)(hc:Ch b w w')(hb:b<base):Sx.Dep base F w':=fun w2 hs hk =>
 h w2 (Nat.le_trans hc.size hs) fun k hk1 hk2=>(hk k (Nat.lt_of_lt_of_le hk1 hc.size) hk2).trans (hc.block k hk1 fun e=>by simp only[Option.some.injEq]at e; omega)
theorem of_rowN1{f:α→Value}{w:World}{v:Value}{l:List α}(h:IsRowN 1 (fun x=>[f x]) w v l):IsRowOf f w v l:=by
 obtain⟨a,cap,hv,hm,h⟩:=h
 refine⟨a,cap,hv,hm,?_⟩
 rcases h with h | ⟨b,o,ha,hlt,hl,hc⟩
 ·exact .inl h
 ·exact .inr ⟨b,o,ha,hlt,hl,fun i hi=>by have:=hc i hi 0 (by omega); simpa using this⟩
/-- What a record holds, without the places. -/
def RatD.strip(r:RatD):RatD:=⟨r.n1,Option.none,0,r.l1,r.n2,Option.none,0,r.l2⟩
def AffD.strip(t:AffD):AffD:=⟨t.a.strip,t.b.strip,t.c.strip,t.d.strip,t.e.strip,t.f.strip⟩
def ImgD.strip(m:ImgD):ImgD:=⟨m.w,m.h,Option.none,0,m.l⟩
def PaintD.strip(p:PaintD):PaintD:=⟨p.kind,p.color,p.p0,p.p1,p.radius,Option.none,0,p.stops,p.spread,p.img.strip,p.samp,p.t.strip⟩
def StyleD.strip(p:StyleD):StyleD:=⟨p.width,p.join,p.cap,p.miter,Option.none,0,p.dash,p.phase⟩
def NodeD.strip(n:NodeD):NodeD:=⟨n.id,n.kind,n.depth,n.t.strip,Option.none,0,n.clip,n.clipRule,n.opacity,n.blend,n.isolated,n.knockout,Option.none,0,n.path,n.fillRule,Option.none,0,n.fill.map PaintD.strip,n.style.strip,Option.none,0,n.stroke.map PaintD.strip,n.img.strip,n.samp⟩
abbrev u32c:UInt32→List Value:=fun x=>[u32v x]
def RatD.okT(base:Nat)(r:RatD)(w:World):Prop:=r.ok w∧Sx.Ty 194 1 base r.s1 r.l1.length w∧Sx.Ty 194 1 base r.s2 r.l2.length w
def AffD.okT(base:Nat)(t:AffD)(w:World):Prop:=t.a.okT base w∧t.b.okT base w∧t.c.okT base w∧t.d.okT base w∧t.e.okT base w∧t.f.okT base w
def PaintD.okT(base:Nat)(p:PaintD)(w:World):Prop:=p.ok w∧Sx.Ty 155 5 base p.sv p.stops.length w∧Sx.Ty 122 4 base p.img.s p.img.l.length w∧p.t.okT base w
def IsPaintsT(base:Nat)(w:World)(v:Value)(l:List PaintD):Prop:=Sx.RowT 99 40 PaintD.cells base v l w∧∀p∈l,p.okT base w
def NodeD.okT(base:Nat)(n:NodeD)(w:World):Prop:=n.ok w∧n.t.okT base w∧Sx.Ty 62 7 base n.cs n.clip.length w∧Sx.Ty 62 7 base n.ps n.path.length w∧IsPaintsT base w n.fs n.fill∧IsPaintsT base w n.ss n.stroke∧Sx.Ty 3 1 base n.style.s n.style.dash.length w∧Sx.Ty 122 4 base n.img.s n.img.l.length w
theorem RatD.okT.le{base b0:Nat}{r:RatD}{w:World}(h:r.okT base w)(hb:b0≤base):r.okT b0 w:=⟨h.1,h.2.1.le hb,h.2.2.le hb⟩
theorem AffD.okT.le{base b0:Nat}{t:AffD}{w:World}(h:t.okT base w)(hb:b0≤base):t.okT b0 w:=⟨h.1.le hb,h.2.1.le hb,h.2.2.1.le hb,h.2.2.2.1.le hb,h.2.2.2.2.1.le hb,h.2.2.2.2.2.le hb⟩
theorem AffD.okT.ok{base:Nat}{t:AffD}{w:World}(h:t.okT base w):t.ok w:=⟨h.1.1,h.2.1.1,h.2.2.1.1,h.2.2.2.1.1,h.2.2.2.2.1.1,h.2.2.2.2.2.1⟩
theorem PaintD.okT.le{base b0:Nat}{p:PaintD}{w:World}(h:p.okT base w)(hb:b0≤base):p.okT b0 w:=⟨h.1,h.2.1.le hb,h.2.2.1.le hb,h.2.2.2.le hb⟩
theorem IsPaintsT.le{base b0:Nat}{w:World}{v:Value}{l:List PaintD}(h:IsPaintsT base w v l)(hb:b0≤base):IsPaintsT b0 w v l:=⟨h.1.le hb,fun p hp=>(h.2 p hp).le hb⟩
theorem IsPaintsT.ok{base:Nat}{w:World}{v:Value}{l:List PaintD}(h:IsPaintsT base w v l):IsPaints w v l:=⟨h.1.1,fun p hp=>(h.2 p hp).1⟩
/-- Numbers, transforms, paints in memory from base on. -/
abbrev RatD.cp (base:Nat)(r:RatD)(w:World):Prop:=Sx.Dep base (fun W=>r.okT base W) w
abbrev AffD.cp (base:Nat)(t:AffD)(w:World):Prop:=Sx.Dep base (fun W=>t.okT base W) w
abbrev CpPaints (base:Nat)(v:Value)(l:List PaintD)(w:World):Prop:=Sx.Dep base (fun W=>IsPaintsT base W v l) w
theorem rat_le{base b0:Nat}{r:RatD}{w:World}(h:r.cp base w)(hb:b0≤base):r.cp b0 w:=Sx.On.imp (Sx.Dep.le h hb) fun _ h=>h.le hb
theorem aff_le{base b0:Nat}{t:AffD}{w:World}(h:t.cp base w)(hb:b0≤base):t.cp b0 w:=Sx.On.imp (Sx.Dep.le h hb) fun _ h=>h.le hb
theorem paints_le{base b0:Nat}{v:Value}{l:List PaintD}{w:World}(h:CpPaints base v l w)(hb:b0≤base):CpPaints b0 v l w:=Sx.On.imp (Sx.Dep.le h hb) fun _ h=>h.le hb
/-- Numbers of at most a million digits. -/
def RatD.lim(r:RatD):Prop:=r.fit 1000000
def AffD.lim(t:AffD):Prop:=t.fit 1000000
theorem rat_lim{r:RatD}(h:r.fit 1000000):r.l1.length≤10000000∧r.l2.length≤10000000:=⟨by have:=h.1; omega,by have:=h.2; omega⟩
theorem aff_lim{t:AffD}(h:t.lim):(t.a.l1.length≤10000000∧t.a.l2.length≤10000000)∧(t.b.l1.length≤10000000∧t.b.l2.length≤10000000)∧(t.c.l1.length≤10000000∧t.c.l2.length≤10000000)∧(t.d.l1.length≤10000000∧t.d.l2.length≤10000000)∧(t.e.l1.length≤10000000∧t.e.l2.length≤10000000)∧(t.f.l1.length≤10000000∧t.f.l2.length≤10000000):=
 ⟨rat_lim h.1,rat_lim h.2.1,rat_lim h.2.2.1,rat_lim h.2.2.2.1,rat_lim h.2.2.2.2.1,rat_lim h.2.2.2.2.2⟩
theorem raw_anyU32{w:World}{v:Value}{L:List UInt32}(h:IsRowN 1 (fun x=>[u32v x]) w v L):RawRow w 1 v L.length (L.flatMap (fun x=>[u32v x])):=Sx.raw_rowN h (fun _=>rfl) fun _=>rfl
theorem clnU32_any{w:World}{v:Value}{L:List UInt32}(h:IsRowN 1 (fun x=>[u32v x]) w v L)(hl:L.length≤10000000) :
  Calls Tryz.prog 183 #[v] w fun e w'=>∃v',e = .returned v'∧Cp 194 1 (fun x=>[u32v x]) w.heap.size v' L w'∧Ext w w':=by
 obtain⟨a,c,rfl⟩:=h.shape
 cases a with
 | none =>
  obtain rfl:L=[]:=rowN_none h
  obtain rfl:=rowN_none_cap h
  refine Sx.enter Tryz.func183 Tryz.ntmps183 fun ac S=>Sx.seqP fun _ κ1=>Sx.run S 1 [] [(2,.slice none 0 0)] fun ac S=>Sx.done<|κ1 _ _<|wp_seq_k fun _ κ2=>Sx.seqP fun _ κ3=>Sx.run S 2 [] [(4,.bool true)] fun ac S=>Sx.done<|κ3 _ _<|Sx.condT S<|Sx.seqP fun _ κ4=>Sx.run S 1 [] [(2,.slice none 0 0)] fun ac S=>Sx.done<|κ4 _ _<|Vp.rt ?_
  refine Sx.ret1 S Tryz.results183 ?_
  exact⟨_,rfl,cp_nil _ _ _ _ _,S.E⟩
 | some p =>
  refine Sx.enter Tryz.func183 Tryz.ntmps183 fun ac S=>Sx.seqP fun _ κ1=>Sx.run S 1 [] [(2,.slice none 0 0)] fun ac S=>Sx.done<|κ1 _ _<|wp_seq_k fun _ κ2=>Sx.seqP fun _ κ3=>Sx.run S 2 [] [(4,.bool false)] fun ac S=>Sx.done<|κ3 _ _<|Sx.condF S<|wp_skip<|κ2 _ _<|Sx.seqP (fun _ κ4=>?_)
  have R:=Sx.Rw.nil S
  refine Sx.newRow S R 5 0 194 1 [] fun ac u v5 E6 X7 R S=>Sx.run S 1 [] [(6,.slice (some p) L.length c)] fun ac S=>Sx.app S R 0 7 rfl tyU32 (raw_anyU32 (h.below S.E)) (by show 0+L.length≤9223372036854775807; omega) (by show(0+L.length)*_≤140737488355328; omega) fun ac u v8 X9 R S=>Sx.run S 1 [] [(2,v8)] fun ac S=>Sx.done<|κ4 _ _<|Vp.rt ?_
  refine Sx.ret1 S Tryz.results183 ?_
  exact⟨_,rfl,Sx.own_rowT (fun _=>rfl) (R.own _ List.mem_cons_self) (Nat.zero_add _) (List.nil_append _),S.E⟩
theorem raw_anySeg{w:World}{v:Value}{L:List SegD}(h:IsRowN 7 SegD.cells w v L):RawRow w 7 v L.length (L.flatMap SegD.cells):=Sx.raw_rowN h (fun _=>rfl) fun _=>rfl
theorem clnSeg_any{w:World}{v:Value}{L:List SegD}(h:IsRowN 7 SegD.cells w v L)(hl:L.length≤10000000) :
  Calls Tryz.prog 99 #[v] w fun e w'=>∃v',e = .returned v'∧Cp 62 7 SegD.cells w.heap.size v' L w'∧Ext w w':=by
 obtain⟨a,c,rfl⟩:=h.shape
 cases a with
 | none =>
  obtain rfl:L=[]:=rowN_none h
  obtain rfl:=rowN_none_cap h
  refine Sx.enter Tryz.func99 Tryz.ntmps99 fun ac S=>Sx.seqP fun _ κ1=>Sx.run S 1 [] [(2,.slice none 0 0)] fun ac S=>Sx.done<|κ1 _ _<|wp_seq_k fun _ κ2=>Sx.seqP fun _ κ3=>Sx.run S 2 [] [(4,.bool true)] fun ac S=>Sx.done<|κ3 _ _<|Sx.condT S<|Sx.seqP fun _ κ4=>Sx.run S 1 [] [(2,.slice none 0 0)] fun ac S=>Sx.done<|κ4 _ _<|Vp.rt ?_
  refine Sx.ret1 S Tryz.results99 ?_
  exact⟨_,rfl,cp_nil _ _ _ _ _,S.E⟩
 | some p =>
  refine Sx.enter Tryz.func99 Tryz.ntmps99 fun ac S=>Sx.seqP fun _ κ1=>Sx.run S 1 [] [(2,.slice none 0 0)] fun ac S=>Sx.done<|κ1 _ _<|wp_seq_k fun _ κ2=>Sx.seqP fun _ κ3=>Sx.run S 2 [] [(4,.bool false)] fun ac S=>Sx.done<|κ3 _ _<|Sx.condF S<|wp_skip<|κ2 _ _<|Sx.seqP (fun _ κ4=>?_)
  have R:=Sx.Rw.nil S
  refine Sx.newRow S R 5 0 62 7 [] fun ac u v5 E6 X7 R S=>Sx.run S 1 [] [(6,.slice (some p) L.length c)] fun ac S=>Sx.app S R 0 7 rfl tySeg (raw_anySeg (h.below S.E)) (by show 0+L.length≤9223372036854775807; omega) (by show(0+L.length)*_≤140737488355328; omega) fun ac u v8 X9 R S=>Sx.run S 1 [] [(2,v8)] fun ac S=>Sx.done<|κ4 _ _<|Vp.rt ?_
  refine Sx.ret1 S Tryz.results99 ?_
  exact⟨_,rfl,Sx.own_rowT (fun _=>rfl) (R.own _ List.mem_cons_self) (Nat.zero_add _) (List.nil_append _),S.E⟩
theorem raw_anyStop{w:World}{v:Value}{L:List StopD}(h:IsRowN 5 StopD.cells w v L):RawRow w 5 v L.length (L.flatMap StopD.cells):=Sx.raw_rowN h (fun _=>rfl) fun _=>rfl
theorem clnStop_any{w:World}{v:Value}{L:List StopD}(h:IsRowN 5 StopD.cells w v L)(hl:L.length≤10000000) :
  Calls Tryz.prog 143 #[v] w fun e w'=>∃v',e = .returned v'∧Cp 155 5 StopD.cells w.heap.size v' L w'∧Ext w w':=by
 obtain⟨a,c,rfl⟩:=h.shape
 cases a with
 | none =>
  obtain rfl:L=[]:=rowN_none h
  obtain rfl:=rowN_none_cap h
  refine Sx.enter Tryz.func143 Tryz.ntmps143 fun ac S=>Sx.seqP fun _ κ1=>Sx.run S 1 [] [(2,.slice none 0 0)] fun ac S=>Sx.done<|κ1 _ _<|wp_seq_k fun _ κ2=>Sx.seqP fun _ κ3=>Sx.run S 2 [] [(4,.bool true)] fun ac S=>Sx.done<|κ3 _ _<|Sx.condT S<|Sx.seqP fun _ κ4=>Sx.run S 1 [] [(2,.slice none 0 0)] fun ac S=>Sx.done<|κ4 _ _<|Vp.rt ?_
  refine Sx.ret1 S Tryz.results143 ?_
  exact⟨_,rfl,cp_nil _ _ _ _ _,S.E⟩
 | some p =>
  refine Sx.enter Tryz.func143 Tryz.ntmps143 fun ac S=>Sx.seqP fun _ κ1=>Sx.run S 1 [] [(2,.slice none 0 0)] fun ac S=>Sx.done<|κ1 _ _<|wp_seq_k fun _ κ2=>Sx.seqP fun _ κ3=>Sx.run S 2 [] [(4,.bool false)] fun ac S=>Sx.done<|κ3 _ _<|Sx.condF S<|wp_skip<|κ2 _ _<|Sx.seqP (fun _ κ4=>?_)
  have R:=Sx.Rw.nil S
  refine Sx.newRow S R 5 0 155 5 [] fun ac u v5 E6 X7 R S=>Sx.run S 1 [] [(6,.slice (some p) L.length c)] fun ac S=>Sx.app S R 0 7 rfl tyStop (raw_anyStop (h.below S.E)) (by show 0+L.length≤9223372036854775807; omega) (by show(0+L.length)*_≤140737488355328; omega) fun ac u v8 X9 R S=>Sx.run S 1 [] [(2,v8)] fun ac S=>Sx.done<|κ4 _ _<|Vp.rt ?_
  refine Sx.ret1 S Tryz.results143 ?_
  exact⟨_,rfl,Sx.own_rowT (fun _=>rfl) (R.own _ List.mem_cons_self) (Nat.zero_add _) (List.nil_append _),S.E⟩
theorem raw_anyPix{w:World}{v:Value}{L:List PixD}(h:IsRowN 4 PixD.cells w v L):RawRow w 4 v L.length (L.flatMap PixD.cells):=Sx.raw_rowN h (fun _=>rfl) fun _=>rfl
theorem clnPix_any{w:World}{v:Value}{L:List PixD}(h:IsRowN 4 PixD.cells w v L)(hl:L.length≤10000000) :
  Calls Tryz.prog 102 #[v] w fun e w'=>∃v',e = .returned v'∧Cp 122 4 PixD.cells w.heap.size v' L w'∧Ext w w':=by
 obtain⟨a,c,rfl⟩:=h.shape
 cases a with
 | none =>
  obtain rfl:L=[]:=rowN_none h
  obtain rfl:=rowN_none_cap h
  refine Sx.enter Tryz.func102 Tryz.ntmps102 fun ac S=>Sx.seqP fun _ κ1=>Sx.run S 1 [] [(2,.slice none 0 0)] fun ac S=>Sx.done<|κ1 _ _<|wp_seq_k fun _ κ2=>Sx.seqP fun _ κ3=>Sx.run S 2 [] [(4,.bool true)] fun ac S=>Sx.done<|κ3 _ _<|Sx.condT S<|Sx.seqP fun _ κ4=>Sx.run S 1 [] [(2,.slice none 0 0)] fun ac S=>Sx.done<|κ4 _ _<|Vp.rt ?_
  refine Sx.ret1 S Tryz.results102 ?_
  exact⟨_,rfl,cp_nil _ _ _ _ _,S.E⟩
 | some p =>
  refine Sx.enter Tryz.func102 Tryz.ntmps102 fun ac S=>Sx.seqP fun _ κ1=>Sx.run S 1 [] [(2,.slice none 0 0)] fun ac S=>Sx.done<|κ1 _ _<|wp_seq_k fun _ κ2=>Sx.seqP fun _ κ3=>Sx.run S 2 [] [(4,.bool false)] fun ac S=>Sx.done<|κ3 _ _<|Sx.condF S<|wp_skip<|κ2 _ _<|Sx.seqP (fun _ κ4=>?_)
  have R:=Sx.Rw.nil S
  refine Sx.newRow S R 5 0 122 4 [] fun ac u v5 E6 X7 R S=>Sx.run S 1 [] [(6,.slice (some p) L.length c)] fun ac S=>Sx.app S R 0 7 rfl tyPix (raw_anyPix (h.below S.E)) (by show 0+L.length≤9223372036854775807; omega) (by show(0+L.length)*_≤140737488355328; omega) fun ac u v8 X9 R S=>Sx.run S 1 [] [(2,v8)] fun ac S=>Sx.done<|κ4 _ _<|Vp.rt ?_
  refine Sx.ret1 S Tryz.results102 ?_
  exact⟨_,rfl,Sx.own_rowT (fun _=>rfl) (R.own _ List.mem_cons_self) (Nat.zero_add _) (List.nil_append _),S.E⟩
theorem raw_anyInt{w:World}{v:Value}{L:List Int}(h:IsRowN 1 (fun x=>[i64v x]) w v L):RawRow w 1 v L.length (L.flatMap (fun x=>[i64v x])):=Sx.raw_rowN h (fun _=>rfl) fun _=>rfl
theorem clnInt_any{w:World}{v:Value}{L:List Int}(h:IsRowN 1 (fun x=>[i64v x]) w v L)(hl:L.length≤10000000) :
  Calls Tryz.prog 101 #[v] w fun e w'=>∃v',e = .returned v'∧Cp 3 1 (fun x=>[i64v x]) w.heap.size v' L w'∧Ext w w':=by
 obtain⟨a,c,rfl⟩:=h.shape
 cases a with
 | none =>
  obtain rfl:L=[]:=rowN_none h
  obtain rfl:=rowN_none_cap h
  refine Sx.enter Tryz.func101 Tryz.ntmps101 fun ac S=>Sx.seqP fun _ κ1=>Sx.run S 1 [] [(2,.slice none 0 0)] fun ac S=>Sx.done<|κ1 _ _<|wp_seq_k fun _ κ2=>Sx.seqP fun _ κ3=>Sx.run S 2 [] [(4,.bool true)] fun ac S=>Sx.done<|κ3 _ _<|Sx.condT S<|Sx.seqP fun _ κ4=>Sx.run S 1 [] [(2,.slice none 0 0)] fun ac S=>Sx.done<|κ4 _ _<|Vp.rt ?_
  refine Sx.ret1 S Tryz.results101 ?_
  exact⟨_,rfl,cp_nil _ _ _ _ _,S.E⟩
 | some p =>
  refine Sx.enter Tryz.func101 Tryz.ntmps101 fun ac S=>Sx.seqP fun _ κ1=>Sx.run S 1 [] [(2,.slice none 0 0)] fun ac S=>Sx.done<|κ1 _ _<|wp_seq_k fun _ κ2=>Sx.seqP fun _ κ3=>Sx.run S 2 [] [(4,.bool false)] fun ac S=>Sx.done<|κ3 _ _<|Sx.condF S<|wp_skip<|κ2 _ _<|Sx.seqP (fun _ κ4=>?_)
  have R:=Sx.Rw.nil S
  refine Sx.newRow S R 5 0 3 1 [] fun ac u v5 E6 X7 R S=>Sx.run S 1 [] [(6,.slice (some p) L.length c)] fun ac S=>Sx.app S R 0 7 rfl tyInt (raw_anyInt (h.below S.E)) (by show 0+L.length≤9223372036854775807; omega) (by show(0+L.length)*_≤140737488355328; omega) fun ac u v8 X9 R S=>Sx.run S 1 [] [(2,v8)] fun ac S=>Sx.done<|κ4 _ _<|Vp.rt ?_
  refine Sx.ret1 S Tryz.results101 ?_
  exact⟨_,rfl,Sx.own_rowT (fun _=>rfl) (R.own _ List.mem_cons_self) (Nat.zero_add _) (List.nil_append _),S.E⟩
theorem digits_any{w:World}{n:Bool}{v:Value}{l:List UInt32}(h:IsRowN 1 u32c w v l)(hl:l.length≤10000000) :
  Calls Tryz.prog 141 #[.agg #[.bool n,v]] w fun e w'=>∃a c,e = .returned (.agg #[.bool n,.slice a l.length c])∧Cp 194 1 u32c w.heap.size (.slice a l.length c) l w'∧Ext w w':=by
 obtain⟨a0,c0,rfl⟩:=h.shape
 refine Sx.enter Tryz.func141 Tryz.ntmps141 fun ac S=>Sx.seqP fun _ κ1=>Sx.newp S 1 [.bool n,.slice a0 l.length c0] fun ac u b2 E3 hb4 S=>Sx.newp S 2 [.bool false,.slice none 0 0] fun ac u b5 E6 hb7 S=>Sx.done<|κ1 _ _<|wp_seq_k (fun _ κ8=>?_)
 have y0:=S.E.size
 have z0:=(S.bx 0).1
 refine Sx.drawX S 5 [(7,fun v w1=>Cp 194 1 u32c u.heap.size v l w1)] (fun r=>[.mem 1 0,.mem 1 1]) (fun x=>[x 7]) (fun x=>[(_,_,true,x 7,7)]) [[]] (fun x=>[(4,.bool n),(7,x 7)]) ⟨fun _ _ _ k h=>h.ext k,trivial⟩ (fun x=>⟨by intro u hC g F; exact(clnU32_any (h.below (Ext.trans' S.E hC)) hl).mono fun e w2 h=>by obtain⟨y,rfl,hx,hb⟩:=h; exact⟨_,rfl,hx.mono hC.size,hb⟩,trivial⟩) (fun ac u x E9 F S=>?_)
 obtain⟨F7,-⟩:=F
 obtain⟨a1,c1,e1⟩:=Cp.shape F7
 rw[e1]at S F7
 refine Sx.run S 1 [] [(8,.agg #[.bool n,.slice a1 l.length c1])] fun ac S=>Sx.store S 0 (off:=0) (cs:=[.bool n,.slice a1 l.length c1]) rfl (fun u C10 S=>?_)
 have Fs11:=Dep.ch F7 C10 (by omega)
 refine Sx.done<|κ8 _ _<|Vp.rt ?_
 refine Sx.retc S 0 Tryz.results141 rfl (v := .agg #[.bool n,.slice a1 l.length c1]) ?_
 exact⟨a1,c1,rfl,Cp.mono Fs11 (by omega),S.E⟩
theorem rat_cp{base:Nat}{r:RatD}{w:World}(h1:Cp 194 1 u32c base r.s1 r.l1 w)(h2:Cp 194 1 u32c base r.s2 r.l2 w):r.cp base w:=Sx.On.imp (Sx.On.and h1 h2) fun _ h=>⟨⟨of_rowN1 h.1.1,of_rowN1 h.2.1⟩,h.1.2,h.2.2⟩
theorem aff_cp{base:Nat}{t:AffD}{w:World}(h0:t.a.cp base w)(h1:t.b.cp base w)(h2:t.c.cp base w)(h3:t.d.cp base w)(h4:t.e.cp base w)(h5:t.f.cp base w):t.cp base w:=Sx.On.and h0 (Sx.On.and h1 (Sx.On.and h2 (Sx.On.and h3 (Sx.On.and h4 h5))))
theorem transform_any{w:World}{t:AffD}(h:t.ok w)(hl:t.lim) :
  Calls Tryz.prog 98 #[t.v] w fun e w'=>∃t':AffD,e = .returned t'.v∧t'.cp w.heap.size w'∧t'.strip=t.strip∧Ext w w':=by
 obtain⟨h0,h1,h2,h3,h4,h5⟩:=h
 obtain⟨hl0,hl1,hl2,hl3,hl4,hl5⟩:=aff_lim hl
 refine Sx.enter Tryz.func98 Tryz.ntmps98 fun ac S=>Sx.seqP fun _ κ1=>Sx.newp S 1 t.cells fun ac u b2 E3 hb4 S=>Sx.newp S 2 Sx.za fun ac u b5 E6 hb7 S=>Sx.done<|κ1 _ _<|wp_seq_k fun _ κ8=>Sx.seqP fun _ κ9=>Sx.run S 6 [] [(5,.pointer (some ⟨b2,0,none⟩)),(6,.pointer (some ⟨b2,4,none⟩)),(7,.pointer (some ⟨b2,8,none⟩)),(8,.pointer (some ⟨b2,12,none⟩)),(9,.pointer (some ⟨b2,16,none⟩)),(10,.pointer (some ⟨b2,20,none⟩))] fun ac S=>Sx.news S 11 6 [.pointer (some ⟨b2,0,none⟩),.pointer (some ⟨b2,4,none⟩),.pointer (some ⟨b2,8,none⟩),.pointer (some ⟨b2,12,none⟩),.pointer (some ⟨b2,16,none⟩),.pointer (some ⟨b2,20,none⟩)] fun ac u b10 E11 hb12 S=>Sx.run S 2 [] [(12,.int .i64 6),(13,.int .i64 0)] fun ac S=>Sx.done<|κ9 _ _<|wp_block<|wp_loop_rounds 7 ?_
 rw[rounds_succ]
 refine Sx.seqP fun _ κ13=>Sx.run S 1 [] [(14,.bool true)] fun ac S=>Sx.done<|κ13 _ _<|wp_seq_k fun _ κ14=>Sx.condT S<|wp_skip<|κ14 _ _<|wp_seq_k fun _ κ15=>wp_block<|Sx.seqP fun _ κ16=>Sx.run S 3 [.mem 0 0] [(4,.pointer (some ⟨b2,0,none⟩))] fun ac S=>Sx.done (κ16 _ _ ?_)
 have y0:=S.E.size
 have z1:=(S.bx 1).1
 have z2:=(S.bx 2).1
 refine Sx.hoist [0] 11<|Sx.drawXA S 11 [(22,fun v w1=>∃a c,v = .agg #[.bool t.a.n1,.slice a t.a.l1.length c]∧Cp 194 1 u32c u.heap.size (.slice a t.a.l1.length c) t.a.l1 w1),(27,fun v w1=>∃a c,v = .agg #[.bool t.a.n2,.slice a t.a.l2.length c]∧Cp 194 1 u32c u.heap.size (.slice a t.a.l2.length c) t.a.l2 w1)] (fun r=>[.mem 2 0,.mem 2 2]) (fun x=>[x 22,x 27]) (fun x=>[(_,_,true,x 22,22),(_,_,true,x 27,27)]) [[],[]] (fun x=>[(17,.pointer (some ⟨b2,0,none⟩)),(22,x 22),(27,x 27)]) ⟨fun _ _ _ k h=>by obtain⟨a,c,e,h⟩:=h; exact⟨a,c,e,h.ext k⟩,fun _ _ _ k h=>by obtain⟨a,c,e,h⟩:=h; exact⟨a,c,e,h.ext k⟩,trivial⟩ (fun x=>⟨by intro u hC g F; exact(digits_any (n:=t.a.n1) (v:=t.a.s1) (l:=t.a.l1) ((rowN_one (f:=u32v) h0.1).below (Ext.trans' S.E hC)) (hl0.1)).mono fun e w2 h=>by obtain⟨a,c,rfl,hx,hb⟩:=h; exact⟨_,rfl,⟨a,c,rfl,hx.mono hC.size⟩,hb⟩,by intro u hC g F; exact(digits_any (n:=t.a.n2) (v:=t.a.s2) (l:=t.a.l2) ((rowN_one (f:=u32v) h0.2).below (Ext.trans' S.E hC)) (hl0.2)).mono fun e w2 h=>by obtain⟨a,c,rfl,hx,hb⟩:=h; exact⟨_,rfl,⟨a,c,rfl,hx.mono hC.size⟩,hb⟩,trivial⟩) (fun ac u x E17 F S=>?_)
 obtain⟨F22,F27,-⟩:=F
 obtain⟨a01,c01,e01,F22⟩:=F22
 rw[e01]at S
 obtain⟨a02,c02,e02,F27⟩:=F27
 rw[e02]at S
 refine Sx.run S 2 [] [(28,.agg #[.bool t.a.n1,.slice a01 t.a.l1.length c01,.bool t.a.n2,.slice a02 t.a.l2.length c02]),(29,.pointer (some ⟨b2,0,none⟩))] fun ac S=>Sx.store S 2 (off:=0) (cs:=[.bool t.a.n1,.slice a01 t.a.l1.length c01,.bool t.a.n2,.slice a02 t.a.l2.length c02]) rfl (fun u C18 S=>?_)
 have Fs19:=Dep.ch F22 C18 (by omega)
 have Fs20:=Dep.ch F27 C18 (by omega)
 have G21:=(rat_cp (r:=⟨t.a.n1,a01,c01,t.a.l1,t.a.n2,a02,c02,t.a.l2⟩) Fs19 Fs20)
 refine Sx.done<|κ15 _ _<|Vp.region<|Sx.run S 2 [] [(13,.int .i64 1)] fun ac S=>Sx.done ?_
 show Code.rounds _ _ _ 6 _ _
 rw[rounds_succ]
 refine Sx.seqP fun _ κ22=>Sx.run S 1 [] [(14,.bool true)] fun ac S=>Sx.done<|κ22 _ _<|wp_seq_k fun _ κ23=>Sx.condT S<|wp_skip<|κ23 _ _<|wp_seq_k fun _ κ24=>wp_block<|Sx.seqP fun _ κ25=>Sx.run S 3 [.mem 0 1] [(4,.pointer (some ⟨b2,4,none⟩))] fun ac S=>Sx.done (κ25 _ _ ?_)
 have y1:=S.E.size
 have z1:=(S.bx 1).1
 have z2:=(S.bx 2).1
 refine Sx.hoist [0] 11<|Sx.drawXA S 11 [(22,fun v w1=>∃a c,v = .agg #[.bool t.b.n1,.slice a t.b.l1.length c]∧Cp 194 1 u32c u.heap.size (.slice a t.b.l1.length c) t.b.l1 w1),(27,fun v w1=>∃a c,v = .agg #[.bool t.b.n2,.slice a t.b.l2.length c]∧Cp 194 1 u32c u.heap.size (.slice a t.b.l2.length c) t.b.l2 w1)] (fun r=>[.mem 2 4,.mem 2 6]) (fun x=>[x 22,x 27]) (fun x=>[(_,_,true,x 22,22),(_,_,true,x 27,27)]) [[],[]] (fun x=>[(17,.pointer (some ⟨b2,4,none⟩)),(22,x 22),(27,x 27)]) ⟨fun _ _ _ k h=>by obtain⟨a,c,e,h⟩:=h; exact⟨a,c,e,h.ext k⟩,fun _ _ _ k h=>by obtain⟨a,c,e,h⟩:=h; exact⟨a,c,e,h.ext k⟩,trivial⟩ (fun x=>⟨by intro u hC g F; exact(digits_any (n:=t.b.n1) (v:=t.b.s1) (l:=t.b.l1) ((rowN_one (f:=u32v) h1.1).below (Ext.trans' S.E hC)) (hl1.1)).mono fun e w2 h=>by obtain⟨a,c,rfl,hx,hb⟩:=h; exact⟨_,rfl,⟨a,c,rfl,hx.mono hC.size⟩,hb⟩,by intro u hC g F; exact(digits_any (n:=t.b.n2) (v:=t.b.s2) (l:=t.b.l2) ((rowN_one (f:=u32v) h1.2).below (Ext.trans' S.E hC)) (hl1.2)).mono fun e w2 h=>by obtain⟨a,c,rfl,hx,hb⟩:=h; exact⟨_,rfl,⟨a,c,rfl,hx.mono hC.size⟩,hb⟩,trivial⟩) (fun ac u x E26 F S=>?_)
 obtain⟨F22,F27,-⟩:=F
 obtain⟨a11,c11,e11,F22⟩:=F22
 rw[e11]at S
 obtain⟨a12,c12,e12,F27⟩:=F27
 rw[e12]at S
 refine Sx.run S 2 [] [(28,.agg #[.bool t.b.n1,.slice a11 t.b.l1.length c11,.bool t.b.n2,.slice a12 t.b.l2.length c12]),(29,.pointer (some ⟨b2,4,none⟩))] fun ac S=>Sx.store S 2 (off:=4) (cs:=[.bool t.b.n1,.slice a11 t.b.l1.length c11,.bool t.b.n2,.slice a12 t.b.l2.length c12]) rfl (fun u C27 S=>?_)
 have Fs28:=Dep.ch (G21.ext E26) C27 (by omega)
 have Fs29:=Dep.ch F22 C27 (by omega)
 have Fs30:=Dep.ch F27 C27 (by omega)
 have G31:=(rat_cp (r:=⟨t.b.n1,a11,c11,t.b.l1,t.b.n2,a12,c12,t.b.l2⟩) Fs29 Fs30)
 refine Sx.done<|κ24 _ _<|Vp.region<|Sx.run S 2 [] [(13,.int .i64 2)] fun ac S=>Sx.done ?_
 show Code.rounds _ _ _ 5 _ _
 rw[rounds_succ]
 refine Sx.seqP fun _ κ32=>Sx.run S 1 [] [(14,.bool true)] fun ac S=>Sx.done<|κ32 _ _<|wp_seq_k fun _ κ33=>Sx.condT S<|wp_skip<|κ33 _ _<|wp_seq_k fun _ κ34=>wp_block<|Sx.seqP fun _ κ35=>Sx.run S 3 [.mem 0 2] [(4,.pointer (some ⟨b2,8,none⟩))] fun ac S=>Sx.done (κ35 _ _ ?_)
 have y2:=S.E.size
 have z1:=(S.bx 1).1
 have z2:=(S.bx 2).1
 refine Sx.hoist [0] 11<|Sx.drawXA S 11 [(22,fun v w1=>∃a c,v = .agg #[.bool t.c.n1,.slice a t.c.l1.length c]∧Cp 194 1 u32c u.heap.size (.slice a t.c.l1.length c) t.c.l1 w1),(27,fun v w1=>∃a c,v = .agg #[.bool t.c.n2,.slice a t.c.l2.length c]∧Cp 194 1 u32c u.heap.size (.slice a t.c.l2.length c) t.c.l2 w1)] (fun r=>[.mem 2 8,.mem 2 10]) (fun x=>[x 22,x 27]) (fun x=>[(_,_,true,x 22,22),(_,_,true,x 27,27)]) [[],[]] (fun x=>[(17,.pointer (some ⟨b2,8,none⟩)),(22,x 22),(27,x 27)]) ⟨fun _ _ _ k h=>by obtain⟨a,c,e,h⟩:=h; exact⟨a,c,e,h.ext k⟩,fun _ _ _ k h=>by obtain⟨a,c,e,h⟩:=h; exact⟨a,c,e,h.ext k⟩,trivial⟩ (fun x=>⟨by intro u hC g F; exact(digits_any (n:=t.c.n1) (v:=t.c.s1) (l:=t.c.l1) ((rowN_one (f:=u32v) h2.1).below (Ext.trans' S.E hC)) (hl2.1)).mono fun e w2 h=>by obtain⟨a,c,rfl,hx,hb⟩:=h; exact⟨_,rfl,⟨a,c,rfl,hx.mono hC.size⟩,hb⟩,by intro u hC g F; exact(digits_any (n:=t.c.n2) (v:=t.c.s2) (l:=t.c.l2) ((rowN_one (f:=u32v) h2.2).below (Ext.trans' S.E hC)) (hl2.2)).mono fun e w2 h=>by obtain⟨a,c,rfl,hx,hb⟩:=h; exact⟨_,rfl,⟨a,c,rfl,hx.mono hC.size⟩,hb⟩,trivial⟩) (fun ac u x E36 F S=>?_)
 obtain⟨F22,F27,-⟩:=F
 obtain⟨a21,c21,e21,F22⟩:=F22
 rw[e21]at S
 obtain⟨a22,c22,e22,F27⟩:=F27
 rw[e22]at S
 refine Sx.run S 2 [] [(28,.agg #[.bool t.c.n1,.slice a21 t.c.l1.length c21,.bool t.c.n2,.slice a22 t.c.l2.length c22]),(29,.pointer (some ⟨b2,8,none⟩))] fun ac S=>Sx.store S 2 (off:=8) (cs:=[.bool t.c.n1,.slice a21 t.c.l1.length c21,.bool t.c.n2,.slice a22 t.c.l2.length c22]) rfl (fun u C37 S=>?_)
 have Fs38:=Dep.ch (Fs28.ext E36) C37 (by omega)
 have Fs39:=Dep.ch (G31.ext E36) C37 (by omega)
 have Fs40:=Dep.ch F22 C37 (by omega)
 have Fs41:=Dep.ch F27 C37 (by omega)
 have G42:=(rat_cp (r:=⟨t.c.n1,a21,c21,t.c.l1,t.c.n2,a22,c22,t.c.l2⟩) Fs40 Fs41)
 refine Sx.done<|κ34 _ _<|Vp.region<|Sx.run S 2 [] [(13,.int .i64 3)] fun ac S=>Sx.done ?_
 show Code.rounds _ _ _ 4 _ _
 rw[rounds_succ]
 refine Sx.seqP fun _ κ43=>Sx.run S 1 [] [(14,.bool true)] fun ac S=>Sx.done<|κ43 _ _<|wp_seq_k fun _ κ44=>Sx.condT S<|wp_skip<|κ44 _ _<|wp_seq_k fun _ κ45=>wp_block<|Sx.seqP fun _ κ46=>Sx.run S 3 [.mem 0 3] [(4,.pointer (some ⟨b2,12,none⟩))] fun ac S=>Sx.done (κ46 _ _ ?_)
 have y3:=S.E.size
 have z1:=(S.bx 1).1
 have z2:=(S.bx 2).1
 refine Sx.hoist [0] 11<|Sx.drawXA S 11 [(22,fun v w1=>∃a c,v = .agg #[.bool t.d.n1,.slice a t.d.l1.length c]∧Cp 194 1 u32c u.heap.size (.slice a t.d.l1.length c) t.d.l1 w1),(27,fun v w1=>∃a c,v = .agg #[.bool t.d.n2,.slice a t.d.l2.length c]∧Cp 194 1 u32c u.heap.size (.slice a t.d.l2.length c) t.d.l2 w1)] (fun r=>[.mem 2 12,.mem 2 14]) (fun x=>[x 22,x 27]) (fun x=>[(_,_,true,x 22,22),(_,_,true,x 27,27)]) [[],[]] (fun x=>[(17,.pointer (some ⟨b2,12,none⟩)),(22,x 22),(27,x 27)]) ⟨fun _ _ _ k h=>by obtain⟨a,c,e,h⟩:=h; exact⟨a,c,e,h.ext k⟩,fun _ _ _ k h=>by obtain⟨a,c,e,h⟩:=h; exact⟨a,c,e,h.ext k⟩,trivial⟩ (fun x=>⟨by intro u hC g F; exact(digits_any (n:=t.d.n1) (v:=t.d.s1) (l:=t.d.l1) ((rowN_one (f:=u32v) h3.1).below (Ext.trans' S.E hC)) (hl3.1)).mono fun e w2 h=>by obtain⟨a,c,rfl,hx,hb⟩:=h; exact⟨_,rfl,⟨a,c,rfl,hx.mono hC.size⟩,hb⟩,by intro u hC g F; exact(digits_any (n:=t.d.n2) (v:=t.d.s2) (l:=t.d.l2) ((rowN_one (f:=u32v) h3.2).below (Ext.trans' S.E hC)) (hl3.2)).mono fun e w2 h=>by obtain⟨a,c,rfl,hx,hb⟩:=h; exact⟨_,rfl,⟨a,c,rfl,hx.mono hC.size⟩,hb⟩,trivial⟩) (fun ac u x E47 F S=>?_)
 obtain⟨F22,F27,-⟩:=F
 obtain⟨a31,c31,e31,F22⟩:=F22
 rw[e31]at S
 obtain⟨a32,c32,e32,F27⟩:=F27
 rw[e32]at S
 refine Sx.run S 2 [] [(28,.agg #[.bool t.d.n1,.slice a31 t.d.l1.length c31,.bool t.d.n2,.slice a32 t.d.l2.length c32]),(29,.pointer (some ⟨b2,12,none⟩))] fun ac S=>Sx.store S 2 (off:=12) (cs:=[.bool t.d.n1,.slice a31 t.d.l1.length c31,.bool t.d.n2,.slice a32 t.d.l2.length c32]) rfl (fun u C48 S=>?_)
 have Fs49:=Dep.ch (Fs38.ext E47) C48 (by omega)
 have Fs50:=Dep.ch (Fs39.ext E47) C48 (by omega)
 have Fs51:=Dep.ch (G42.ext E47) C48 (by omega)
 have Fs52:=Dep.ch F22 C48 (by omega)
 have Fs53:=Dep.ch F27 C48 (by omega)
 have G54:=(rat_cp (r:=⟨t.d.n1,a31,c31,t.d.l1,t.d.n2,a32,c32,t.d.l2⟩) Fs52 Fs53)
 refine Sx.done<|κ45 _ _<|Vp.region<|Sx.run S 2 [] [(13,.int .i64 4)] fun ac S=>Sx.done ?_
 show Code.rounds _ _ _ 3 _ _
 rw[rounds_succ]
 refine Sx.seqP fun _ κ55=>Sx.run S 1 [] [(14,.bool true)] fun ac S=>Sx.done<|κ55 _ _<|wp_seq_k fun _ κ56=>Sx.condT S<|wp_skip<|κ56 _ _<|wp_seq_k fun _ κ57=>wp_block<|Sx.seqP fun _ κ58=>Sx.run S 3 [.mem 0 4] [(4,.pointer (some ⟨b2,16,none⟩))] fun ac S=>Sx.done (κ58 _ _ ?_)
 have y4:=S.E.size
 have z1:=(S.bx 1).1
 have z2:=(S.bx 2).1
 refine Sx.hoist [0] 11<|Sx.drawXA S 11 [(22,fun v w1=>∃a c,v = .agg #[.bool t.e.n1,.slice a t.e.l1.length c]∧Cp 194 1 u32c u.heap.size (.slice a t.e.l1.length c) t.e.l1 w1),(27,fun v w1=>∃a c,v = .agg #[.bool t.e.n2,.slice a t.e.l2.length c]∧Cp 194 1 u32c u.heap.size (.slice a t.e.l2.length c) t.e.l2 w1)] (fun r=>[.mem 2 16,.mem 2 18]) (fun x=>[x 22,x 27]) (fun x=>[(_,_,true,x 22,22),(_,_,true,x 27,27)]) [[],[]] (fun x=>[(17,.pointer (some ⟨b2,16,none⟩)),(22,x 22),(27,x 27)]) ⟨fun _ _ _ k h=>by obtain⟨a,c,e,h⟩:=h; exact⟨a,c,e,h.ext k⟩,fun _ _ _ k h=>by obtain⟨a,c,e,h⟩:=h; exact⟨a,c,e,h.ext k⟩,trivial⟩ (fun x=>⟨by intro u hC g F; exact(digits_any (n:=t.e.n1) (v:=t.e.s1) (l:=t.e.l1) ((rowN_one (f:=u32v) h4.1).below (Ext.trans' S.E hC)) (hl4.1)).mono fun e w2 h=>by obtain⟨a,c,rfl,hx,hb⟩:=h; exact⟨_,rfl,⟨a,c,rfl,hx.mono hC.size⟩,hb⟩,by intro u hC g F; exact(digits_any (n:=t.e.n2) (v:=t.e.s2) (l:=t.e.l2) ((rowN_one (f:=u32v) h4.2).below (Ext.trans' S.E hC)) (hl4.2)).mono fun e w2 h=>by obtain⟨a,c,rfl,hx,hb⟩:=h; exact⟨_,rfl,⟨a,c,rfl,hx.mono hC.size⟩,hb⟩,trivial⟩) (fun ac u x E59 F S=>?_)
 obtain⟨F22,F27,-⟩:=F
 obtain⟨a41,c41,e41,F22⟩:=F22
 rw[e41]at S
 obtain⟨a42,c42,e42,F27⟩:=F27
 rw[e42]at S
 refine Sx.run S 2 [] [(28,.agg #[.bool t.e.n1,.slice a41 t.e.l1.length c41,.bool t.e.n2,.slice a42 t.e.l2.length c42]),(29,.pointer (some ⟨b2,16,none⟩))] fun ac S=>Sx.store S 2 (off:=16) (cs:=[.bool t.e.n1,.slice a41 t.e.l1.length c41,.bool t.e.n2,.slice a42 t.e.l2.length c42]) rfl (fun u C60 S=>?_)
 have Fs61:=Dep.ch (Fs49.ext E59) C60 (by omega)
 have Fs62:=Dep.ch (Fs50.ext E59) C60 (by omega)
 have Fs63:=Dep.ch (Fs51.ext E59) C60 (by omega)
 have Fs64:=Dep.ch (G54.ext E59) C60 (by omega)
 have Fs65:=Dep.ch F22 C60 (by omega)
 have Fs66:=Dep.ch F27 C60 (by omega)
 have G67:=(rat_cp (r:=⟨t.e.n1,a41,c41,t.e.l1,t.e.n2,a42,c42,t.e.l2⟩) Fs65 Fs66)
 refine Sx.done<|κ57 _ _<|Vp.region<|Sx.run S 2 [] [(13,.int .i64 5)] fun ac S=>Sx.done ?_
 show Code.rounds _ _ _ 2 _ _
 rw[rounds_succ]
 refine Sx.seqP fun _ κ68=>Sx.run S 1 [] [(14,.bool true)] fun ac S=>Sx.done<|κ68 _ _<|wp_seq_k fun _ κ69=>Sx.condT S<|wp_skip<|κ69 _ _<|wp_seq_k fun _ κ70=>wp_block<|Sx.seqP fun _ κ71=>Sx.run S 3 [.mem 0 5] [(4,.pointer (some ⟨b2,20,none⟩))] fun ac S=>Sx.done (κ71 _ _ ?_)
 have y5:=S.E.size
 have z1:=(S.bx 1).1
 have z2:=(S.bx 2).1
 refine Sx.hoist [0] 11<|Sx.drawXA S 11 [(22,fun v w1=>∃a c,v = .agg #[.bool t.f.n1,.slice a t.f.l1.length c]∧Cp 194 1 u32c u.heap.size (.slice a t.f.l1.length c) t.f.l1 w1),(27,fun v w1=>∃a c,v = .agg #[.bool t.f.n2,.slice a t.f.l2.length c]∧Cp 194 1 u32c u.heap.size (.slice a t.f.l2.length c) t.f.l2 w1)] (fun r=>[.mem 2 20,.mem 2 22]) (fun x=>[x 22,x 27]) (fun x=>[(_,_,true,x 22,22),(_,_,true,x 27,27)]) [[],[]] (fun x=>[(17,.pointer (some ⟨b2,20,none⟩)),(22,x 22),(27,x 27)]) ⟨fun _ _ _ k h=>by obtain⟨a,c,e,h⟩:=h; exact⟨a,c,e,h.ext k⟩,fun _ _ _ k h=>by obtain⟨a,c,e,h⟩:=h; exact⟨a,c,e,h.ext k⟩,trivial⟩ (fun x=>⟨by intro u hC g F; exact(digits_any (n:=t.f.n1) (v:=t.f.s1) (l:=t.f.l1) ((rowN_one (f:=u32v) h5.1).below (Ext.trans' S.E hC)) (hl5.1)).mono fun e w2 h=>by obtain⟨a,c,rfl,hx,hb⟩:=h; exact⟨_,rfl,⟨a,c,rfl,hx.mono hC.size⟩,hb⟩,by intro u hC g F; exact(digits_any (n:=t.f.n2) (v:=t.f.s2) (l:=t.f.l2) ((rowN_one (f:=u32v) h5.2).below (Ext.trans' S.E hC)) (hl5.2)).mono fun e w2 h=>by obtain⟨a,c,rfl,hx,hb⟩:=h; exact⟨_,rfl,⟨a,c,rfl,hx.mono hC.size⟩,hb⟩,trivial⟩) (fun ac u x E72 F S=>?_)
 obtain⟨F22,F27,-⟩:=F
 obtain⟨a51,c51,e51,F22⟩:=F22
 rw[e51]at S
 obtain⟨a52,c52,e52,F27⟩:=F27
 rw[e52]at S
 refine Sx.run S 2 [] [(28,.agg #[.bool t.f.n1,.slice a51 t.f.l1.length c51,.bool t.f.n2,.slice a52 t.f.l2.length c52]),(29,.pointer (some ⟨b2,20,none⟩))] fun ac S=>Sx.store S 2 (off:=20) (cs:=[.bool t.f.n1,.slice a51 t.f.l1.length c51,.bool t.f.n2,.slice a52 t.f.l2.length c52]) rfl (fun u C73 S=>?_)
 have Fs74:=Dep.ch (Fs61.ext E72) C73 (by omega)
 have Fs75:=Dep.ch (Fs62.ext E72) C73 (by omega)
 have Fs76:=Dep.ch (Fs63.ext E72) C73 (by omega)
 have Fs77:=Dep.ch (Fs64.ext E72) C73 (by omega)
 have Fs78:=Dep.ch (G67.ext E72) C73 (by omega)
 have Fs79:=Dep.ch F22 C73 (by omega)
 have Fs80:=Dep.ch F27 C73 (by omega)
 have G81:=(rat_cp (r:=⟨t.f.n1,a51,c51,t.f.l1,t.f.n2,a52,c52,t.f.l2⟩) Fs79 Fs80)
 refine Sx.done<|κ70 _ _<|Vp.region<|Sx.run S 2 [] [(13,.int .i64 6)] fun ac S=>Sx.done ?_
 show Code.rounds _ _ _ 1 _ _
 rw[rounds_succ]
 refine Sx.seqP fun _ κ82=>Sx.run S 1 [] [(14,.bool false)] fun ac S=>Sx.done<|κ82 _ _<|wp_seq_k fun _ κ83=>Sx.condF S<|wp_exit<|κ8 _ _<|Sx.seqP fun _ κ84=>Sx.run S 1 [.mem 2 0] [(31,.agg #[.bool t.a.n1,.slice a01 t.a.l1.length c01,.bool t.a.n2,.slice a02 t.a.l2.length c02,.bool t.b.n1,.slice a11 t.b.l1.length c11,.bool t.b.n2,.slice a12 t.b.l2.length c12,.bool t.c.n1,.slice a21 t.c.l1.length c21,.bool t.c.n2,.slice a22 t.c.l2.length c22,.bool t.d.n1,.slice a31 t.d.l1.length c31,.bool t.d.n2,.slice a32 t.d.l2.length c32,.bool t.e.n1,.slice a41 t.e.l1.length c41,.bool t.e.n2,.slice a42 t.e.l2.length c42,.bool t.f.n1,.slice a51 t.f.l1.length c51,.bool t.f.n2,.slice a52 t.f.l2.length c52])] fun ac S=>Sx.store S 1 (off:=0) (cs:=[.bool t.a.n1,.slice a01 t.a.l1.length c01,.bool t.a.n2,.slice a02 t.a.l2.length c02,.bool t.b.n1,.slice a11 t.b.l1.length c11,.bool t.b.n2,.slice a12 t.b.l2.length c12,.bool t.c.n1,.slice a21 t.c.l1.length c21,.bool t.c.n2,.slice a22 t.c.l2.length c22,.bool t.d.n1,.slice a31 t.d.l1.length c31,.bool t.d.n2,.slice a32 t.d.l2.length c32,.bool t.e.n1,.slice a41 t.e.l1.length c41,.bool t.e.n2,.slice a42 t.e.l2.length c42,.bool t.f.n1,.slice a51 t.f.l1.length c51,.bool t.f.n2,.slice a52 t.f.l2.length c52]) rfl (fun u C85 S=>?_)
 have Fs86:=Dep.ch Fs74 C85 (by omega)
 have Fs87:=Dep.ch Fs75 C85 (by omega)
 have Fs88:=Dep.ch Fs76 C85 (by omega)
 have Fs89:=Dep.ch Fs77 C85 (by omega)
 have Fs90:=Dep.ch Fs78 C85 (by omega)
 have Fs91:=Dep.ch G81 C85 (by omega)
 refine Sx.done<|κ84 _ _<|Vp.rt ?_
 refine Sx.retc S 1 Tryz.results98 rfl (v := .agg #[.bool t.a.n1,.slice a01 t.a.l1.length c01,.bool t.a.n2,.slice a02 t.a.l2.length c02,.bool t.b.n1,.slice a11 t.b.l1.length c11,.bool t.b.n2,.slice a12 t.b.l2.length c12,.bool t.c.n1,.slice a21 t.c.l1.length c21,.bool t.c.n2,.slice a22 t.c.l2.length c22,.bool t.d.n1,.slice a31 t.d.l1.length c31,.bool t.d.n2,.slice a32 t.d.l2.length c32,.bool t.e.n1,.slice a41 t.e.l1.length c41,.bool t.e.n2,.slice a42 t.e.l2.length c42,.bool t.f.n1,.slice a51 t.f.l1.length c51,.bool t.f.n2,.slice a52 t.f.l2.length c52]) ?_
 exact⟨⟨⟨t.a.n1,a01,c01,t.a.l1,t.a.n2,a02,c02,t.a.l2⟩,⟨t.b.n1,a11,c11,t.b.l1,t.b.n2,a12,c12,t.b.l2⟩,⟨t.c.n1,a21,c21,t.c.l1,t.c.n2,a22,c22,t.c.l2⟩,⟨t.d.n1,a31,c31,t.d.l1,t.d.n2,a32,c32,t.d.l2⟩,⟨t.e.n1,a41,c41,t.e.l1,t.e.n2,a42,c42,t.e.l2⟩,⟨t.f.n1,a51,c51,t.f.l1,t.f.n2,a52,c52,t.f.l2⟩⟩,rfl,aff_cp (rat_le Fs86 (by omega)) (rat_le Fs87 (by omega)) (rat_le Fs88 (by omega)) (rat_le Fs89 (by omega)) (rat_le Fs90 (by omega)) (rat_le Fs91 (by omega)),rfl,S.E⟩
end Go.Proofs.YtfmkkemfhjkajaaGreatDoor
