/- Copies of nodes in new memory: package node's paints and Clone. -/
import Derived.Test.YtfmkkemfhjkajaaGreatDoorCln36
set_option maxHeartbeats 3200000
set_option maxRecDepth 100000
namespace Go.Proofs.YtfmkkemfhjkajaaGreatDoor
open Go.RowKit
variable{α:Type}{K:Nat}
set_option linter.unusedVariables false
theorem flat_at{k:Nat}{f:α→List Value}{M q:List α}{x:α}{i:Nat}(hM:M.length=i)(hf:∀x,(f x).length=k):(((M++x::q).flatMap f).drop (0+i*k)).take (f x).length=f x:=by
 rw[List.flatMap_append,List.drop_append,Sx.flatMap_len hf,hM,List.drop_eq_nil_of_le (by rw[Sx.flatMap_len hf,hM]; omega),show 0+i*k-i*k=0 by omega,List.nil_append,List.drop_zero,List.flatMap_cons,List.take_left]
theorem flat_spl{k:Nat}{f:α→List Value}{M q:List α}{B cs:List Value}{i o:Nat}(hM:M.length=i)(hf:∀x,(f x).length=k)(ho:o+cs.length≤B.length):Sx.spl (M.flatMap f++(B++q.flatMap f)) (0+i*k+o) cs=M.flatMap f++(Sx.spl B o cs++q.flatMap f):=by
 have hl:(M.flatMap f).length=i*k:=by rw[Sx.flatMap_len hf,hM]
 unfold Sx.spl
 rw[List.take_append,List.drop_append,hl,List.take_of_length_le (by omega),List.drop_eq_nil_of_le (by omega),List.nil_append,show 0+i*k+o-i*k=o by omega,show 0+i*k+o+cs.length-i*k=o+cs.length by omega,List.take_append_of_le_length (by omega),List.drop_append_of_le_length ho]
 simp only[List.append_assoc]
theorem spl_len{A cs:List Value}{o:Nat}(h:o+cs.length≤A.length):(Sx.spl A o cs).length=A.length:=by unfold Sx.spl; simp; omega
/-- A paint in other places. -/
def PaintD.re(x:PaintD)(a1:Option Addr)(c1:Nat)(a2:Option Addr)(c2:Nat)(t:AffD):PaintD:=⟨x.kind,x.color,x.p0,x.p1,x.radius,a1,c1,x.stops,x.spread,⟨x.img.w,x.img.h,a2,c2,x.img.l⟩,x.samp,t⟩
theorem paint_cp{B:Nat→Prop}{base:Nat}{w w1:World}{x:PaintD}{a1 a2:Option Addr}{c1 c2:Nat}{t:AffD}(hx:x.ok w1)(h1:Sx.On B (Sx.RowT 155 5 StopD.cells base (.slice a1 x.stops.length c1) x.stops) w)(h2:Sx.On B (Sx.RowT 122 4 PixD.cells base (.slice a2 x.img.l.length c2) x.img.l) w)(h3:Sx.On B (fun w=>t.okT base w) w):Sx.On B (fun w=>(x.re a1 c1 a2 c2 t).okT base w) w:=
 Sx.On.imp (Sx.On.and h1 (Sx.On.and h2 h3)) fun _ h=>⟨⟨hx.1,hx.2.1,hx.2.2.1,hx.2.2.2.1,h.1.1,hx.2.2.2.2.2.1,hx.2.2.2.2.2.2.1,⟨hx.2.2.2.2.2.2.2.1.1,hx.2.2.2.2.2.2.2.1.2.1,h.2.1.1⟩,hx.2.2.2.2.2.2.2.2.1,h.2.2.ok⟩,h.1.2,h.2.1.2,h.2.2⟩
theorem paint_re{x:PaintD}{a1 a2:Option Addr}{c1 c2:Nat}{t:AffD}:Sx.spl (Sx.spl (Sx.spl x.cells 10 [.slice a1 x.stops.length c1]) 14 [.slice a2 x.img.l.length c2]) 16 t.cells=(x.re a1 c1 a2 c2 t).cells:=rfl
def PaintD.lim(p:PaintD):Prop:=p.stops.length≤10000000∧p.img.l.length≤10000000∧p.t.lim
theorem all_snoc{P:PaintD→Prop}{M:List PaintD}{x:PaintD}(h:∀p∈M,P p)(hx:P x):∀p∈M++[x],P p:=fun p hp=>by
 rcases List.mem_append.1 hp with hp | hp
 ·exact h p hp
 ·rw[List.mem_singleton.1 hp]; exact hx
theorem strip_snoc{l M:List PaintD}{k:Nat}{x y:PaintD}(hk:k<l.length)(hx:l[k]=x)(h:M.map PaintD.strip=(l.take k).map PaintD.strip)(hy:y.strip=x.strip):(M++[y]).map PaintD.strip=(l.take (k+1)).map PaintD.strip:=by
 rw[List.take_succ_eq_append_getElem hk,List.map_append,List.map_append,h,hx]; simp[hy]
theorem raw_anyPaint{w:World}{v:Value}{L:List PaintD}(h:IsRowN 40 PaintD.cells w v L):RawRow w 40 v L.length (L.flatMap PaintD.cells):=Sx.raw_rowN h (fun _=>rfl) fun _=>rfl
theorem clnPaint_own{w:World}{v:Value}{L:List PaintD}(h:IsRowN 40 PaintD.cells w v L)(hl:L.length≤10000000) :
  Calls Tryz.prog 142 #[v] w fun e w'=>∃v',e = .returned v'∧w'.ownsRow w.heap.size 99 40 v' L.length (L.flatMap PaintD.cells)∧Ext w w':=by
 obtain⟨a,c,rfl⟩:=h.shape
 cases a with
 | none =>
  obtain rfl:L=[]:=rowN_none h
  obtain rfl:=rowN_none_cap h
  refine Sx.enter Tryz.func142 Tryz.ntmps142 fun ac S=>Sx.seqP fun _ κ1=>Sx.run S 1 [] [(2,.slice none 0 0)] fun ac S=>Sx.done<|κ1 _ _<|wp_seq_k fun _ κ2=>Sx.seqP fun _ κ3=>Sx.run S 2 [] [(4,.bool true)] fun ac S=>Sx.done<|κ3 _ _<|Sx.condT S<|Sx.seqP fun _ κ4=>Sx.run S 1 [] [(2,.slice none 0 0)] fun ac S=>Sx.done<|κ4 _ _<|Vp.rt ?_
  refine Sx.ret1 S Tryz.results142 ?_
  exact⟨_,rfl,⟨by simp,.inl ⟨rfl,rfl⟩⟩,S.E⟩
 | some p =>
  refine Sx.enter Tryz.func142 Tryz.ntmps142 fun ac S=>Sx.seqP fun _ κ1=>Sx.run S 1 [] [(2,.slice none 0 0)] fun ac S=>Sx.done<|κ1 _ _<|wp_seq_k fun _ κ2=>Sx.seqP fun _ κ3=>Sx.run S 2 [] [(4,.bool false)] fun ac S=>Sx.done<|κ3 _ _<|Sx.condF S<|wp_skip<|κ2 _ _<|Sx.seqP (fun _ κ4=>?_)
  have R:=Sx.Rw.nil S
  refine Sx.newRow S R 5 0 99 40 [] fun ac u v5 E6 X7 R S=>Sx.run S 1 [] [(6,.slice (some p) L.length c)] fun ac S=>Sx.app S R 0 7 rfl tyPaint (raw_anyPaint (h.below S.E)) (by show 0+L.length≤9223372036854775807; omega) (by show(0+L.length)*_≤140737488355328; omega) fun ac u v8 X9 R S=>Sx.run S 1 [] [(2,v8)] fun ac S=>Sx.done<|κ4 _ _<|Vp.rt ?_
  refine Sx.ret1 S Tryz.results142 ?_
  have ho:=R.own _ List.mem_cons_self
  refine⟨_,rfl,?_,S.E⟩
  simpa using ho
theorem own_addr{w:World}{B:Nat}{e:TypeId}{k n c:Nat}{a:Option Addr}{xs:List Value}(h:w.ownsRow B e k (.slice a n c) n xs)(hn:0<n):∃g,a=some ⟨g,0,none⟩:=by
 obtain⟨h1,⟨e,h0⟩ | ⟨g,cap,cur,e,_⟩⟩:=h
 ·omega
 ·simp only[Value.slice.injEq]at e; exact⟨g,e.1⟩
theorem paints_any{w:World}{v:Value}{l:List PaintD}(h:IsPaints w v l)(hl:l.length≤10000000)(hl2:∀p∈l,p.lim) :
  Calls Tryz.prog 100 #[v] w fun e w'=>∃v' l',e = .returned v'∧CpPaints w.heap.size v' l' w'∧l'.map PaintD.strip=l.map PaintD.strip∧Ext w w':=by
 obtain⟨a,cap,rfl⟩:=h.1.shape
 refine Sx.enter Tryz.func100 Tryz.ntmps100 fun ac S=>Sx.seqP fun _ κ1=>Sx.run S 1 [] [(2,.slice none 0 0)] fun ac S=>Sx.done<|κ1 _ _<|Sx.seqP fun _ κ2=>Sx.run S 1 [] [(6,.slice a l.length cap)] (fun ac S=>?_)
 have R:=Sx.Rw.nil S
 have q0:=S.E.size
 refine Sx.callG S (some 7) (clnPaint_own (h.1.below S.E) hl) ?_
 rintro e u ⟨v,rfl,ho,E1⟩
 refine⟨_,rfl,E1,fun ac S=>?_⟩
 have R:=(R.ext E1).add (r:=⟨99,40,v,l.length,l.flatMap PaintD.cells⟩) ho R.lt q0
 obtain⟨a1,c1,rfl⟩:=Sx.own_shape ho
 refine Sx.run S 1 [] [(3,.slice a1 l.length c1)] fun ac S=>Sx.done<|κ2 _ _<|wp_seq_k fun _ κ3=>Sx.seqP fun _ κ4=>Sx.run S 3 [] [(9,.int .i64 ((l.length:Nat):Int)),(10,.int .i64 0)] fun ac S=>Sx.done<|κ4 _ _<|wp_block ?_
 refine Vp.loop (ι:=Nat×List PaintD) (fun p a' w'=>p.1≤l.length∧(p.2.map PaintD.strip=(l.take p.1).map PaintD.strip)∧Sx.Rw w w' [] [⟨99,40,.slice a1 l.length c1,l.length,(p.2++l.drop p.1).flatMap PaintD.cells⟩]∧Sx.Ow w.heap.size (Sx.Ob [] [⟨99,40,.slice a1 l.length c1,l.length,(p.2++l.drop p.1).flatMap PaintD.cells⟩]) (fun W=>∀z∈p.2,z.okT w.heap.size W) w'∧Sx.St w a' w' 44 [(0,.slice a l.length cap),(2,.slice none 0 0),(3,.slice a1 l.length c1),(9,.int .i64 ((l.length:Nat):Int)),(10,.int .i64 ((p.1:Nat):Int))] [] []) (fun p=>l.length-p.1) (0,[]) ⟨Nat.zero_le _,rfl,R,(fun _ _ _ z hz=>by cases hz),(S.sub [(0,.slice a l.length cap),(2,.slice none 0 0),(3,.slice a1 l.length c1),(9,.int .i64 ((l.length:Nat):Int)),(10,.int .i64 ((0:Nat):Int))]).noviews⟩ ?_
 rintro⟨k,M⟩ ac u hI
 try dsimp only at hI
 obtain⟨hk,hR,R,hF_M,S⟩:=hI
 refine Sx.seqP fun _ κ5=>Sx.run S 1 [] [(11,.bool (decide (((k:Nat):Int)<((l.length:Nat):Int))))] fun ac S=>Sx.done<|κ5 _ _<|wp_seq_k (fun _ κ6=>?_)
 refine Sx.cond S (fun hc7=>?_) (fun hc7=>?_)
 ·refine wp_skip<|κ6 _ _<|wp_seq_k fun _ κ8=>wp_block<|Sx.seqP fun _ κ9=>Sx.run S 2 [] [(4,.int .i64 ((k:Nat):Int))] fun ac S=>Sx.done<|κ9 _ _<|Sx.seqP (fun _ κ10=>?_)
  have hk:k<l.length:=by have:=of_decide_eq_true hc7; omega
  obtain⟨y,hx⟩:∃y,l[k]=y:=⟨_,rfl⟩
  have hd:l.drop k=y::l.drop (k+1):=by rw[←hx]; exact List.drop_eq_getElem_cons hk
  have hM:M.length=k:=by have:=congrArg List.length hR; simp at this; omega
  obtain⟨g,rfl⟩:=own_addr (R.own _ List.mem_cons_self) (by show 0<l.length; omega)
  have hxo:=h.2 y (hx▸List.getElem_mem hk)
  have hxl:=hl2 y (hx▸List.getElem_mem hk)
  obtain⟨hr,hg,hn⟩:=R.range List.mem_cons_self rfl (0+k*40) (cs:=y.cells) (by show(List.drop _ ((M++l.drop k).flatMap PaintD.cells)).take _=_; rw[hd]; exact flat_at hM (fun _=>rfl))
  have S:=S.view hg hr hn
  refine Sx.run S 4 [.idx k l.length] [(5,.pointer (some ⟨g,0+k*40,none⟩))] (hk:=⟨hk,trivial⟩) fun ac S=>Sx.done (κ10 _ _ ?_)
  have q1:=S.E.size
  have q2:=R.lt
  refine Sx.hoist [1,2] 19<|Sx.drawXA S 19 [(23,fun v w1=>Cp 155 5 StopD.cells u.heap.size v y.stops w1),(29,fun v w1=>Cp 122 4 PixD.cells u.heap.size v y.img.l w1),(34,fun v w1=>∃t:AffD,v=t.v∧t.cp u.heap.size w1∧t.strip=y.t.strip)] (fun r=>[.mem 0 10,.mem 0 14,.mem 0 16]) (fun x=>[x 23,x 29,x 34]) (fun x=>[(_,_,true,x 23,23),(_,_,true,x 29,29),(_,_,true,x 34,34)]) [[],[],[]] (fun x=>[(16,.pointer (some ⟨g,0+k*40,none⟩)),(17,.pointer (some ⟨g,0+k*40,none⟩)),(18,.pointer (some ⟨g,0+k*40,none⟩)),(23,x 23),(29,x 29),(34,x 34)]) ⟨fun _ _ _ k h=>h.ext k,fun _ _ _ k h=>h.ext k,fun _ _ _ k h=>by obtain⟨t,e,h,q⟩:=h; exact⟨t,e,h.ext k,q⟩,trivial⟩ (fun x=>⟨by intro u hC g F; exact(clnStop_any (hxo.2.2.2.2.1.below (Ext.trans' S.E hC)) hxl.1).mono fun e w2 h=>by obtain⟨v,rfl,hx,hb⟩:=h; exact⟨_,rfl,hx.mono hC.size,hb⟩,by intro u hC g F; exact(clnPix_any (hxo.2.2.2.2.2.2.2.1.2.2.below (Ext.trans' S.E hC)) hxl.2.1).mono fun e w2 h=>by obtain⟨v,rfl,hx,hb⟩:=h; exact⟨_,rfl,hx.mono hC.size,hb⟩,by intro u hC g F; exact(transform_any (hxo.2.2.2.2.2.2.2.2.2.below (Ext.trans' S.E hC)) hxl.2.2).mono fun e w2 h=>by obtain⟨t,rfl,hx,ht,hb⟩:=h; exact⟨_,rfl,⟨t,rfl,aff_le hx hC.size,ht⟩,hb⟩,trivial⟩) (fun ac u x E11 F S=>?_)
  obtain⟨F23,F29,F34,-⟩:=F
  obtain⟨b1,d1,e1⟩:=Cp.shape F23
  rw[e1]at S F23
  obtain⟨b2,d2,e2⟩:=Cp.shape F29
  rw[e2]at S F29
  obtain⟨t,e3,F34,ht⟩:=F34
  rw[e3]at S
  refine Sx.run S 2 [] [(36,.pointer (some ⟨g,0+k*40+10,none⟩))] (fun ac S=>?_)
  obtain⟨R,Y12⟩:=R.sync2 S (Sx.Stp.ext E11)
  have G0:Sx.Ow _ _ (fun W=>(y.re b1 d1 b2 d2 t).okT w.heap.size W) _:=Sx.On.imp (Sx.Dep.ow (paint_cp hxo F23 F29 F34) q1 q2) fun _ h=>h.le q1
  have hlen:((M++l.drop k).flatMap PaintD.cells).length=l.length*40:=by rw[Sx.flatMap_len (f:=PaintD.cells) (k:=40) (fun _=>rfl)]; simp; omega
  have hk40:k*40+40≤l.length*40:=by omega
  refine Sx.storeRow1 S R 0 (off:=0+k*40+10) (v := .slice b1 y.stops.length d1) rfl rfl (by show 0+k*40+10+1≤_; rw[hlen]; omega) fun u X13 R S=>Sx.run S 3 [] [(39,.pointer (some ⟨g,0+k*40+14,none⟩))] fun ac S=>Sx.storeRow1 S R 0 (off:=0+k*40+14) (v := .slice b2 y.img.l.length d2) rfl rfl (by show 0+k*40+14+1≤_; rw[spl_len (by show 0+k*40+10+1≤_; rw[hlen]; omega),hlen]; omega) fun u X14 R S=>Sx.run S 2 [] [(41,.pointer (some ⟨g,0+k*40+16,none⟩))] fun ac S=>Sx.storeRow S R 0 (off:=0+k*40+16) (cs:=t.cells) rfl rfl (by show 0+k*40+16+24≤_; rw[spl_len (by show 0+k*40+14+1≤_; rw[spl_len (by show 0+k*40+10+1≤_; rw[hlen]; omega),hlen]; omega),spl_len (by show 0+k*40+10+1≤_; rw[hlen]; omega),hlen]; omega) fun u X15 R S=>Sx.done<|κ8 _ _<|Vp.region<|Sx.run S 2 [.re 42 (.int .i64 (IntKind.i64.wrap (((k:Nat):Int)+1))) (.int .i64 (((k+1):Nat):Int))] [(10,.int .i64 (((k+1):Nat):Int))] (hk:=⟨Sx.wrap_succ (by omega),trivial⟩) fun ac S=>Sx.done ?_
  show ∃i',_∧_
  have hxs:Sx.spl (Sx.spl (Sx.spl ((M++l.drop k).flatMap PaintD.cells) (0+k*40+10) [.slice b1 y.stops.length d1]) (0+k*40+14) [.slice b2 y.img.l.length d2]) (0+k*40+16) t.cells=((M++[y.re b1 d1 b2 d2 t])++l.drop (k+1)).flatMap PaintD.cells:=by
   rw[show(M++[y.re b1 d1 b2 d2 t])++l.drop (k+1)=M++(y.re b1 d1 b2 d2 t::l.drop (k+1)) by simp,hd,List.flatMap_append,List.flatMap_append,List.flatMap_cons,List.flatMap_cons,flat_spl (k:=40) (f:=PaintD.cells) hM (fun _=>rfl) (of_decide_eq_true (by kernel_rfl)),flat_spl (k:=40) (f:=PaintD.cells) hM (fun _=>rfl) (of_decide_eq_true (by kernel_rfl)),flat_spl (k:=40) (f:=PaintD.cells) hM (fun _=>rfl) (of_decide_eq_true (by kernel_rfl)),paint_re]
  exact⟨((k+1),M++[y.re b1 d1 b2 d2 t]),⟨by omega,(strip_snoc hk hx hR (by show(y.re b1 d1 b2 d2 t).strip=y.strip; unfold PaintD.strip PaintD.re; rw[ht]; rfl)),R.as (congrArg (fun xs=>[(⟨99,40,.slice (some ⟨g,0,none⟩) l.length c1,l.length,xs⟩:Sx.Row)]) hxs),Sx.On.imp (Sx.On.and (Sx.On.step hF_M (Sx.Stp.trans Y12 (Sx.Stp.trans X13 (Sx.Stp.trans X14 X15)))) (Sx.On.step G0 (Sx.Stp.trans X13 (Sx.Stp.trans X14 X15)))) fun _ h=>all_snoc h.1 h.2,(S.sub [(0,.slice a l.length cap),(2,.slice none 0 0),(3,.slice (some ⟨g,0,none⟩) l.length c1),(9,.int .i64 ((l.length:Nat):Int)),(10,.int .i64 (((k+1):Nat):Int))]).noviews⟩,by show _-_<_-_; omega⟩
 ·refine wp_exit<|κ3 _ _<|Sx.seqP fun _ κ16=>Sx.run S 2 [] [(2,.slice a1 l.length c1)] fun ac S=>Sx.done<|κ16 _ _<|Vp.rt ?_
  refine Sx.ret1 S Tryz.results100 ?_
  have hk:=of_decide_eq_false hc7
  obtain rfl:k=l.length:=by omega
  exact⟨_,M,rfl,Sx.On.and (Sx.own_rowT (fun _=>rfl) (R.own _ List.mem_cons_self) (by have:=congrArg List.length hR; simp at this; exact this.symm) (by simp)) (Sx.Ow.dep hF_M),by simpa using hR,S.E⟩
def NodeD.lim(n:NodeD):Prop:=n.t.lim∧n.clip.length≤10000000∧n.path.length≤10000000∧n.fill.length≤10000000∧(∀p∈n.fill,p.lim)∧n.style.dash.length≤10000000∧n.stroke.length≤10000000∧(∀p∈n.stroke,p.lim)∧n.img.l.length≤10000000
abbrev NodeD.cp (base:Nat)(n:NodeD)(w:World):Prop:=Sx.Dep base (fun W=>n.okT base W) w
theorem node_le{base b0:Nat}{n:NodeD}{w:World}(h:n.cp base w)(hb:b0≤base):n.cp b0 w:=Sx.On.imp (Sx.Dep.le h hb) fun _ h=>⟨h.1,h.2.1.le hb,h.2.2.1.le hb,h.2.2.2.1.le hb,h.2.2.2.2.1.le hb,h.2.2.2.2.2.1.le hb,h.2.2.2.2.2.2.1.le hb,h.2.2.2.2.2.2.2.le hb⟩
theorem node_cp{base:Nat}{w w1:World}{n m:NodeD}(h:n.ok w1)(e1:m.id=n.id)(e2:m.kind=n.kind)(e3:m.depth=n.depth)(e4:m.clip=n.clip)(e5:m.clipRule=n.clipRule)(e6:m.blend=n.blend)(e7:m.path=n.path)(e8:m.fillRule=n.fillRule)(e9:m.style.key=n.style.key)(e10:m.img.key=n.img.key)(e11:m.samp=n.samp)
  (h1:m.t.cp base w) (h2:Cp 62 7 SegD.cells base m.cs m.clip w) (h3:Cp 62 7 SegD.cells base m.ps m.path w) (h4:CpPaints base m.fs m.fill w) (h5:CpPaints base m.ss m.stroke w) (h6:Cp 3 1 (fun x=>[i64v x]) base m.style.s m.style.dash w) (h7:Cp 122 4 PixD.cells base m.img.s m.img.l w):m.cp base w:=by
 obtain⟨k1,k2,k3,k4,k5,k6,k7,k8,k9,k10,k11,k12,k13,k14⟩:=h
 simp only[StyleD.key,StyleK.mk.injEq]at e9
 simp only[ImgD.key,ImgK.mk.injEq]at e10
 refine Sx.On.imp (Sx.On.and h1 (Sx.On.and h2 (Sx.On.and h3 (Sx.On.and h4 (Sx.On.and h5 (Sx.On.and h6 h7)))))) fun W ⟨q1,q2,q3,q4,q5,q6,q7⟩=>⟨?_,q1,q2.2,q3.2,q4,q5,q6.2,q7.2⟩
 refine⟨e1▸k1,e2▸k2,e3▸k3,q1.ok,⟨q2.1,?_⟩,e5▸k6,e6▸k7,⟨q3.1,?_⟩,e8▸k9,q4.ok,⟨?_,?_,?_,?_,of_rowN1 q6.1,?_,?_⟩,q5.ok,⟨?_,?_,q7.1⟩,e11▸k14⟩
 ·rw[e4]; exact k5.2
 ·rw[e7]; exact k8.2
 ·rw[e9.1]; exact k11.1
 ·rw[e9.2.1]; exact k11.2.1
 ·rw[e9.2.2.1]; exact k11.2.2.1
 ·rw[e9.2.2.2.1]; exact k11.2.2.2.1
 ·rw[e9.2.2.2.2.1]; exact k11.2.2.2.2.2.1
 ·rw[e9.2.2.2.2.2]; exact k11.2.2.2.2.2.2
 ·rw[e10.1]; exact k13.1
 ·rw[e10.2.1]; exact k13.2.1
theorem clone_any{w:World}{nd:NodeD}(h:nd.ok w)(hl:nd.lim) :
  Calls Tryz.prog 60 #[nd.v] w fun e w'=>∃m:NodeD,e = .returned m.v∧m.cp w.heap.size w'∧m.strip=nd.strip∧Ext w w':=by
 skip
 refine Sx.enter Tryz.func60 Tryz.ntmps60 fun ac S=>Sx.seqP fun _ κ1=>Sx.newp S 1 nd.cells fun ac u b2 E3 hb4 S=>Sx.newp S 2 (Sx.L [.int .i64 0,.int .i64 0,.int .i64 0]++Sx.za++Sx.L [.slice none 0 0,.int .i64 0,.int .u8 0,.int .i64 0,.bool false,.bool false,.slice none 0 0,.int .i64 0,.slice none 0 0,.int .i64 0,.int .i64 0,.int .i64 0,.int .i64 0,.slice none 0 0,.int .i64 0,.slice none 0 0,.int .i64 0,.int .i64 0,.slice none 0 0,.int .i64 0]) fun ac u b5 E6 hb7 S=>Sx.done<|κ1 _ _<|Sx.seqP (fun _ κ8=>?_)
 have y:=S.E.size
 have z0:=(S.bx 0).1
 have z1:=(S.bx 1).1
 refine Sx.run S 2 [.mem 1 3] [(4,nd.t.v)] fun ac S=>Sx.callG S (some 5) (transform_any (h.2.2.2.1.below S.E) hl.1) ?_
 rintro e u ⟨t,rfl,ht,hs,E9⟩
 refine⟨_,rfl,E9,fun ac S=>?_⟩
 refine Sx.run S 1 [] [(6,.pointer (some ⟨b2,3,none⟩))] fun ac S=>Sx.store S 1 (off:=3) (cs:=t.cells) rfl (fun u C10 S=>?_)
 have Fs11:=Dep.ch ht C10 (by omega)
 refine Sx.done<|κ8 _ _<|wp_seq_k (fun _ κ12=>?_)
 have y:=S.E.size
 have z0:=(S.bx 0).1
 have z1:=(S.bx 1).1
 refine Sx.drawX S 7 [(9,fun v w1=>Cp 62 7 SegD.cells u.heap.size v nd.clip w1),(12,fun v w1=>Cp 62 7 SegD.cells u.heap.size v nd.path w1)] (fun r=>[.mem 1 27,.mem 1 33]) (fun x=>[x 9,x 12]) (fun x=>[(_,_,true,x 9,9),(_,_,true,x 12,12)]) [[],[]] (fun x=>[(9,x 9),(12,x 12),(13,.pointer (some ⟨b2,27,none⟩))]) ⟨fun _ _ _ k h=>h.ext k,fun _ _ _ k h=>h.ext k,trivial⟩ (fun x=>⟨by intro u hC g F; exact(clnSeg_any (h.2.2.2.2.1.1.below (Ext.trans' S.E hC)) hl.2.1).mono fun e w2 h=>by obtain⟨v,rfl,hx,hb⟩:=h; exact⟨_,rfl,hx.mono hC.size,hb⟩,by intro u hC g F; exact(clnSeg_any (h.2.2.2.2.2.2.2.1.1.below (Ext.trans' S.E hC)) hl.2.2.1).mono fun e w2 h=>by obtain⟨v,rfl,hx,hb⟩:=h; exact⟨_,rfl,hx.mono hC.size,hb⟩,trivial⟩) (fun ac u x E13 F S=>?_)
 obtain⟨F9,F12,-⟩:=F
 obtain⟨a1,c1,e1⟩:=Cp.shape F9
 rw[e1]at S F9
 obtain⟨a2,c2,e2⟩:=Cp.shape F12
 rw[e2]at S F12
 refine Sx.store1 S 1 (off:=27) (v := .slice a1 nd.clip.length c1) rfl (fun u C14 S=>?_)
 have Fs15:=Dep.ch (Fs11.ext E13) C14 (by omega)
 have Fs16:=Dep.ch F9 C14 (by omega)
 have Fs17:=Dep.ch F12 C14 (by omega)
 refine Sx.run S 1 [] [(14,.pointer (some ⟨b2,33,none⟩))] fun ac S=>Sx.store1 S 1 (off:=33) (v := .slice a2 nd.path.length c2) rfl (fun u C18 S=>?_)
 have Fs19:=Dep.ch Fs15 C18 (by omega)
 have Fs20:=Dep.ch Fs16 C18 (by omega)
 have Fs21:=Dep.ch Fs17 C18 (by omega)
 refine Sx.done<|κ12 _ _<|wp_seq_k (fun _ κ22=>?_)
 have y:=S.E.size
 have z0:=(S.bx 0).1
 have z1:=(S.bx 1).1
 refine Sx.drawX S 7 [(17,fun v w1=>∃l,CpPaints u.heap.size v l w1∧l.map PaintD.strip=nd.fill.map PaintD.strip),(20,fun v w1=>∃l,CpPaints u.heap.size v l w1∧l.map PaintD.strip=nd.stroke.map PaintD.strip)] (fun r=>[.mem 1 35,.mem 1 42]) (fun x=>[x 17,x 20]) (fun x=>[(_,_,true,x 17,17),(_,_,true,x 20,20)]) [[],[]] (fun x=>[(17,x 17),(20,x 20),(21,.pointer (some ⟨b2,35,none⟩))]) ⟨fun _ _ _ k h=>by obtain⟨l,h,e⟩:=h; exact⟨l,h.ext k,e⟩,fun _ _ _ k h=>by obtain⟨l,h,e⟩:=h; exact⟨l,h.ext k,e⟩,trivial⟩ (fun x=>⟨by intro u hC g F; exact(paints_any (h.2.2.2.2.2.2.2.2.2.1.below (Ext.trans' S.E hC)) hl.2.2.2.1 hl.2.2.2.2.1).mono fun e w2 h=>by obtain⟨v,l,rfl,hx,hs,hb⟩:=h; exact⟨_,rfl,⟨l,paints_le hx hC.size,hs⟩,hb⟩,by intro u hC g F; exact(paints_any (h.2.2.2.2.2.2.2.2.2.2.2.1.below (Ext.trans' S.E hC)) hl.2.2.2.2.2.2.1 hl.2.2.2.2.2.2.2.1).mono fun e w2 h=>by obtain⟨v,l,rfl,hx,hs,hb⟩:=h; exact⟨_,rfl,⟨l,paints_le hx hC.size,hs⟩,hb⟩,trivial⟩) (fun ac u x E23 F S=>?_)
 obtain⟨F17,F20,-⟩:=F
 obtain⟨l3,F17,s3⟩:=F17
 obtain⟨a3,c3,e3⟩:=(Sx.On.self F17).1.1.shape
 rw[e3]at S F17
 obtain⟨l4,F20,s4⟩:=F20
 obtain⟨a4,c4,e4⟩:=(Sx.On.self F20).1.1.shape
 rw[e4]at S F20
 refine Sx.store1 S 1 (off:=35) (v := .slice a3 l3.length c3) rfl (fun u C24 S=>?_)
 have Fs25:=Dep.ch (Fs19.ext E23) C24 (by omega)
 have Fs26:=Dep.ch (Fs20.ext E23) C24 (by omega)
 have Fs27:=Dep.ch (Fs21.ext E23) C24 (by omega)
 have Fs28:=Dep.ch F17 C24 (by omega)
 have Fs29:=Dep.ch F20 C24 (by omega)
 refine Sx.run S 1 [] [(22,.pointer (some ⟨b2,42,none⟩))] fun ac S=>Sx.store1 S 1 (off:=42) (v := .slice a4 l4.length c4) rfl (fun u C30 S=>?_)
 have Fs31:=Dep.ch Fs25 C30 (by omega)
 have Fs32:=Dep.ch Fs26 C30 (by omega)
 have Fs33:=Dep.ch Fs27 C30 (by omega)
 have Fs34:=Dep.ch Fs28 C30 (by omega)
 have Fs35:=Dep.ch Fs29 C30 (by omega)
 refine Sx.done<|κ22 _ _<|wp_seq_k (fun _ κ36=>?_)
 have y:=S.E.size
 have z0:=(S.bx 0).1
 have z1:=(S.bx 1).1
 refine Sx.drawX S 10 [(26,fun v w1=>Cp 3 1 (fun x=>[i64v x]) u.heap.size v nd.style.dash w1),(30,fun v w1=>Cp 122 4 PixD.cells u.heap.size v nd.img.l w1)] (fun r=>[.mem 1 40,.mem 1 45]) (fun x=>[x 26,x 30]) (fun x=>[(_,_,true,x 26,26),(_,_,true,x 30,30)]) [[],[]] (fun x=>[(26,x 26),(30,x 30),(32,.pointer (some ⟨b2,40,none⟩))]) ⟨fun _ _ _ k h=>h.ext k,fun _ _ _ k h=>h.ext k,trivial⟩ (fun x=>⟨by intro u hC g F; exact(clnInt_any ((rowN_one (f:=i64v) h.2.2.2.2.2.2.2.2.2.2.1.2.2.2.2.1).below (Ext.trans' S.E hC)) hl.2.2.2.2.2.1).mono fun e w2 h=>by obtain⟨v,rfl,hx,hb⟩:=h; exact⟨_,rfl,hx.mono hC.size,hb⟩,by intro u hC g F; exact(clnPix_any (h.2.2.2.2.2.2.2.2.2.2.2.2.1.2.2.below (Ext.trans' S.E hC)) hl.2.2.2.2.2.2.2.2).mono fun e w2 h=>by obtain⟨v,rfl,hx,hb⟩:=h; exact⟨_,rfl,hx.mono hC.size,hb⟩,trivial⟩) (fun ac u x E37 F S=>?_)
 obtain⟨F26,F30,-⟩:=F
 obtain⟨a5,c5,e5⟩:=Cp.shape F26
 rw[e5]at S F26
 obtain⟨a6,c6,e6⟩:=Cp.shape F30
 rw[e6]at S F30
 refine Sx.store1 S 1 (off:=40) (v := .slice a5 nd.style.dash.length c5) rfl (fun u C38 S=>?_)
 have Fs39:=Dep.ch (Fs31.ext E37) C38 (by omega)
 have Fs40:=Dep.ch (Fs32.ext E37) C38 (by omega)
 have Fs41:=Dep.ch (Fs33.ext E37) C38 (by omega)
 have Fs42:=Dep.ch (Fs34.ext E37) C38 (by omega)
 have Fs43:=Dep.ch (Fs35.ext E37) C38 (by omega)
 have Fs44:=Dep.ch F26 C38 (by omega)
 have Fs45:=Dep.ch F30 C38 (by omega)
 refine Sx.run S 2 [] [(34,.pointer (some ⟨b2,45,none⟩))] fun ac S=>Sx.store1 S 1 (off:=45) (v := .slice a6 nd.img.l.length c6) rfl (fun u C46 S=>?_)
 have Fs47:=Dep.ch Fs39 C46 (by omega)
 have Fs48:=Dep.ch Fs40 C46 (by omega)
 have Fs49:=Dep.ch Fs41 C46 (by omega)
 have Fs50:=Dep.ch Fs42 C46 (by omega)
 have Fs51:=Dep.ch Fs43 C46 (by omega)
 have Fs52:=Dep.ch Fs44 C46 (by omega)
 have Fs53:=Dep.ch Fs45 C46 (by omega)
 refine Sx.done<|κ36 _ _<|Sx.seqP fun _ κ54=>Sx.run S 1 [.mem 1 0] [(35,.agg (Sx.L [.int .i64 nd.id,.int .i64 nd.kind,.int .i64 nd.depth]++t.cells++Sx.L [.slice a1 nd.clip.length c1,.int .i64 nd.clipRule,.int .u8 (nd.opacity.toNat:Int),.int .i64 nd.blend,.bool nd.isolated,.bool nd.knockout,.slice a2 nd.path.length c2,.int .i64 nd.fillRule,.slice a3 l3.length c3,.int .i64 nd.style.width,.int .i64 nd.style.join,.int .i64 nd.style.cap,.int .i64 nd.style.miter,.slice a5 nd.style.dash.length c5,.int .i64 nd.style.phase,.slice a4 l4.length c4,.int .i64 nd.img.w,.int .i64 nd.img.h,.slice a6 nd.img.l.length c6,.int .i64 nd.samp]).toArray)] fun ac S=>Sx.store S 0 (off:=0) (cs:=(Sx.L [.int .i64 nd.id,.int .i64 nd.kind,.int .i64 nd.depth]++t.cells++Sx.L [.slice a1 nd.clip.length c1,.int .i64 nd.clipRule,.int .u8 (nd.opacity.toNat:Int),.int .i64 nd.blend,.bool nd.isolated,.bool nd.knockout,.slice a2 nd.path.length c2,.int .i64 nd.fillRule,.slice a3 l3.length c3,.int .i64 nd.style.width,.int .i64 nd.style.join,.int .i64 nd.style.cap,.int .i64 nd.style.miter,.slice a5 nd.style.dash.length c5,.int .i64 nd.style.phase,.slice a4 l4.length c4,.int .i64 nd.img.w,.int .i64 nd.img.h,.slice a6 nd.img.l.length c6,.int .i64 nd.samp])) rfl (fun u C55 S=>?_)
 have Fs56:=Dep.ch Fs47 C55 (by omega)
 have Fs57:=Dep.ch Fs48 C55 (by omega)
 have Fs58:=Dep.ch Fs49 C55 (by omega)
 have Fs59:=Dep.ch Fs50 C55 (by omega)
 have Fs60:=Dep.ch Fs51 C55 (by omega)
 have Fs61:=Dep.ch Fs52 C55 (by omega)
 have Fs62:=Dep.ch Fs53 C55 (by omega)
 refine Sx.done<|κ54 _ _<|Vp.rt ?_
 refine Sx.retc S 0 Tryz.results60 rfl (v := .agg (Sx.L [.int .i64 nd.id,.int .i64 nd.kind,.int .i64 nd.depth]++t.cells++Sx.L [.slice a1 nd.clip.length c1,.int .i64 nd.clipRule,.int .u8 (nd.opacity.toNat:Int),.int .i64 nd.blend,.bool nd.isolated,.bool nd.knockout,.slice a2 nd.path.length c2,.int .i64 nd.fillRule,.slice a3 l3.length c3,.int .i64 nd.style.width,.int .i64 nd.style.join,.int .i64 nd.style.cap,.int .i64 nd.style.miter,.slice a5 nd.style.dash.length c5,.int .i64 nd.style.phase,.slice a4 l4.length c4,.int .i64 nd.img.w,.int .i64 nd.img.h,.slice a6 nd.img.l.length c6,.int .i64 nd.samp]).toArray) ?_
 exact⟨⟨nd.id,nd.kind,nd.depth,t,a1,c1,nd.clip,nd.clipRule,nd.opacity,nd.blend,nd.isolated,nd.knockout,a2,c2,nd.path,nd.fillRule,a3,c3,l3,⟨nd.style.width,nd.style.join,nd.style.cap,nd.style.miter,a5,c5,nd.style.dash,nd.style.phase⟩,a4,c4,l4,⟨nd.img.w,nd.img.h,a6,c6,nd.img.l⟩,nd.samp⟩,rfl,node_cp h rfl rfl rfl rfl rfl rfl rfl rfl rfl rfl rfl (aff_le Fs56 (by omega)) (Cp.mono Fs57 (by omega)) (Cp.mono Fs58 (by omega)) (paints_le Fs59 (by omega)) (paints_le Fs60 (by omega)) (Cp.mono Fs61 (by omega)) (Cp.mono Fs62 (by omega)),by unfold NodeD.strip; rw[hs,s3,s4]; rfl,S.E⟩
end Go.Proofs.YtfmkkemfhjkajaaGreatDoor
