/- Equality of nodes: package node. The key of a node: its content with numbers in lowest terms. Nodes are equal exactly if their keys are. No program in sight. -/
import Derived.Test.YtfmkkemfhjkajaaGreatDoorPk24
section
set_option maxHeartbeats 3200000
set_option maxRecDepth 100000
namespace Go.Proofs.YtfmkkemfhjkajaaGreatDoor
open Go.RowKit
variable{α:Type}{K:Nat}
set_option linter.unusedVariables false
/-- Rows of paints are equal. -/
def paintsEq(l m:List PaintD):Bool:=decide (l.length=m.length)&&(l.zip m).all fun p=>p.1.eq p.2
theorem peq_ne{l m:List PaintD}(h:(((l.length:Nat):Int) != ((m.length:Nat):Int))=true):false=paintsEq l m:=by
 have:l.length≠m.length:=fun e=>by rw[e]at h; simp at h
 simp[paintsEq,this]
theorem peq_end{l m:List PaintD}{k:Nat}(hk:l.length≤k)(h:l.length=m.length)(hR:((l.zip m).take k).all (fun p=>p.1.eq p.2)=true):true=paintsEq l m:=by
 rw[List.take_of_length_le (by simp; omega)]at hR
 simp only[paintsEq,h,hR,decide_true,Bool.and_self]
theorem peq_step{l m:List PaintD}{k:Nat}(h1:k<l.length)(h2:k<m.length)(hR:((l.zip m).take k).all (fun p=>p.1.eq p.2)=true)(h:(!(l[k].eq m[k]))=false):((l.zip m).take (k+1)).all (fun p=>p.1.eq p.2)=true:=by
 rw[List.take_succ_eq_append_getElem (by simp; omega),List.all_append,hR]
 simp at h
 simp[h]
theorem peq_no{l m:List PaintD}{k:Nat}(h1:k<l.length)(h2:k<m.length)(h:(!(l[k].eq m[k]))=true):false=paintsEq l m:=by
 symm
 rw[Bool.eq_false_iff]
 intro e
 simp only[paintsEq,Bool.and_eq_true,List.all_eq_true]at e
 have:=e.2 (l[k],m[k]) (by rw[←List.getElem_zip (h:=by simp; omega)]; exact List.getElem_mem _)
 simp[this]at h
theorem pathEqual_any{w:World}{v u:Value}{l m:List SegD}(h:IsRowN 7 SegD.cells w v l)(h':IsRowN 7 SegD.cells w u m) :
  Calls Tryz.prog 93 #[v,u] w fun e w'=>e = .returned (.bool (decide (l=m)))∧Ext w w':=by
 skip
 refine Sx.enter Tryz.func93 Tryz.ntmps93 fun ac S=>Sx.seqP fun _ κ1=>Sx.run S 1 [] [(4,.bool false)] fun ac S=>Sx.done<|κ1 _ _<|Sx.seqP fun _ κ2=>Sx.run S 2 [] [(5,v),(6,u)] fun ac S=>Sx.callv S 7 (slSeg_any (l:=l) (m:=m) (h.below S.E) (h'.below S.E)) fun ac u E3 S=>Sx.run S 1 [] [(4,.bool (decide (l=m)))] fun ac S=>Sx.done<|κ2 _ _<|Vp.rt ?_
 refine Sx.ret1 S Tryz.results93 ?_
 exact⟨rfl,S.E⟩
theorem slPaints_any{w:World}{v u:Value}{l m:List PaintD}(h:IsPaints w v l)(h':IsPaints w u m)(hf:∀p∈l,p.t.fit K)(hf':∀p∈m,p.t.fit K)(hK1:1≤K)(hK:K≤10000) :
  Calls Tryz.prog 94 #[v,u,.func (.func 95) #[] #[]] w fun e w'=>e = .returned (.bool (paintsEq l m))∧Ext w w':=by
 obtain⟨a,cap,rfl⟩:=h.1.shape
 obtain⟨d,cap',rfl⟩:=h'.1.shape
 have hmax:l.length≤9223372036854775807:=h.1.len
 refine Sx.enter Tryz.func94 Tryz.ntmps94 fun ac S=>Sx.seqP fun _ κ1=>Sx.run S 1 [] [(6,.bool false)] fun ac S=>Sx.done<|κ1 _ _<|wp_seq_k fun _ κ2=>Sx.seqP fun _ κ3=>Sx.run S 5 [] [(14,.bool ((((l.length:Nat):Int)) != ((m.length:Nat):Int)))] fun ac S=>Sx.done (κ3 _ _ ?_)
 refine Sx.cond S (fun hc4=>?_) (fun hc4=>?_)
 ·refine Sx.seqP fun _ κ5=>Sx.run S 1 [] [(6,.bool false)] fun ac S=>Sx.done<|κ5 _ _<|Vp.rt ?_
  refine Sx.ret1 S Tryz.results94 ?_
  exact⟨ret_bool (peq_ne hc4),S.E⟩
 ·refine wp_skip<|κ2 _ _<|wp_seq_k fun _ κ6=>Sx.seqP fun _ κ7=>Sx.run S 3 [] [(15,.slice a l.length cap),(16,.int .i64 ((l.length:Nat):Int)),(17,.int .i64 0)] fun ac S=>Sx.done<|κ7 _ _<|wp_block ?_
  refine Vp.loop (ι:=Nat) (fun p a' w'=>p≤l.length∧(((l.zip m).take p).all (fun p=>p.1.eq p.2)=true)∧Sx.St w a' w' 32 [(0,.slice a l.length cap),(1,.slice d m.length cap'),(2,.func (.func 95) #[] #[]),(6,.bool false),(15,.slice a l.length cap),(16,.int .i64 ((l.length:Nat):Int)),(17,.int .i64 ((p:Nat):Int))] [] []) (fun p=>l.length-p) (0) ⟨Nat.zero_le _,rfl,(S.sub [(0,.slice a l.length cap),(1,.slice d m.length cap'),(2,.func (.func 95) #[] #[]),(6,.bool false),(15,.slice a l.length cap),(16,.int .i64 ((l.length:Nat):Int)),(17,.int .i64 ((0:Nat):Int))]).noviews⟩ ?_
  rintro k ac u hI
  try dsimp only at hI
  obtain⟨hk,hR,S⟩:=hI
  refine Sx.seqP fun _ κ8=>Sx.run S 1 [] [(18,.bool (decide (((k:Nat):Int)<((l.length:Nat):Int))))] fun ac S=>Sx.done<|κ8 _ _<|wp_seq_k (fun _ κ9=>?_)
  refine Sx.cond S (fun hc10=>?_) (fun hc10=>?_)
  ·refine wp_skip<|κ9 _ _<|wp_seq_k fun _ κ11=>wp_block<|Sx.seqP (fun _ κ12=>?_)
   have lt18:k<l.length:=by have:=of_decide_eq_true hc10; omega
   obtain⟨b13,o14,c15,hv,hb20,hr16⟩:=Vp.rowN_range2 h.1 (fun _=>rfl) (k) lt18
   simp only[Value.slice.injEq,true_and]at hv
   obtain⟨rfl,rfl⟩:=hv
   obtain⟨x19,hx17⟩:∃z,l[k]=z:=⟨_,rfl⟩
   rw[hx17]at hr16
   have S:=S.view0 hb20 hr16
   refine Sx.run S 3 [.idx k l.length,.mem 0 0] [(19,.int .i64 ((k:Nat):Int)),(21,x19.v)] (hk:=⟨lt18,trivial⟩) fun ac S=>Sx.newp S 8 (Sx.L [.int .i64 0,.int .u8 0,.int .u8 0,.int .u8 0,.int .u8 0,.int .i64 0,.int .i64 0,.int .i64 0,.int .i64 0,.int .i64 0,.slice none 0 0,.int .i64 0,.int .i64 0,.int .i64 0,.slice none 0 0,.int .i64 0]++Sx.za) fun ac u b21 E22 hb23 S=>Sx.run S 1 [] [(7,.int .i64 ((k:Nat):Int))] fun ac S=>Sx.store S 0 (off:=0) (cs:=x19.cells) rfl fun u C24 S=>Sx.done<|κ12 _ _<|Sx.seqP (fun _ κ25=>?_)
   have lt31:k<m.length:=by have:=of_len hc4; have:=of_decide_eq_true hc10; omega
   obtain⟨b26,o27,c28,hv,hb33,hr29⟩:=Vp.rowN_range2 h'.1 (fun _=>rfl) (k) lt31
   simp only[Value.slice.injEq,true_and]at hv
   obtain⟨rfl,rfl⟩:=hv
   obtain⟨y32,hx30⟩:∃z,m[k]=z:=⟨_,rfl⟩
   rw[hx30]at hr29
   have S:=S.view0 hb33 hr29
   refine Sx.run S 4 [.idx k m.length,.mem 1 0] [(25,y32.v)] (hk:=⟨lt31,trivial⟩) fun ac S=>Sx.newp S 9 (Sx.L [.int .i64 0,.int .u8 0,.int .u8 0,.int .u8 0,.int .u8 0,.int .i64 0,.int .i64 0,.int .i64 0,.int .i64 0,.int .i64 0,.slice none 0 0,.int .i64 0,.int .i64 0,.int .i64 0,.slice none 0 0,.int .i64 0]++Sx.za) fun ac u b34 E35 hb36 S=>Sx.store S 0 (off:=0) (cs:=y32.cells) rfl fun u C37 S=>Sx.done<|κ25 _ _<|Sx.seqP fun _ κ38=>Sx.run S 3 [.mem 1 0,.mem 0 0] [(26,.func (.func 95) #[] #[]),(27,x19.v),(28,y32.v)] fun ac S=>Sx.callv S 29 (paintEqual_any (K:=K) (p:=x19) (q:=y32) ((h.2 _ (hx17▸List.getElem_mem lt18)).below S.E) ((h'.2 _ (hx30▸List.getElem_mem lt31)).below S.E) (hf _ (hx17▸List.getElem_mem lt18)) (hf' _ (hx30▸List.getElem_mem lt31)) hK1 hK) fun ac u E39 S=>Sx.run S 1 [] [(30,.bool (!(x19.eq y32)))] fun ac S=>Sx.done (κ38 _ _ ?_)
   refine Sx.cond S (fun hc40=>?_) (fun hc40=>?_)
   ·refine Sx.seqP fun _ κ41=>Sx.run S 1 [] [(6,.bool false)] fun ac S=>Sx.done<|κ41 _ _<|Vp.rt ?_
    refine Sx.ret1 S Tryz.results94 ?_
    exact⟨ret_bool (peq_no lt18 lt31 (by rw[hx17,hx30]; exact hc40)),S.E⟩
   ·refine wp_skip<|κ11 _ _<|Vp.region<|Sx.run S 2 [.re 31 (.int .i64 (IntKind.i64.wrap (((k:Nat):Int)+1))) (.int .i64 (((k+1):Nat):Int))] [(17,.int .i64 (((k+1):Nat):Int))] (hk:=⟨Sx.wrap_succ (by omega),trivial⟩) fun ac S=>Sx.done ?_
    show ∃i',_∧_
    exact⟨(k+1),⟨by omega,(peq_step lt18 lt31 hR (by rw[hx17,hx30]; exact hc40)),(S.sub [(0,.slice (some ⟨b13,o14,none⟩) l.length cap),(1,.slice (some ⟨b26,o27,none⟩) m.length cap'),(2,.func (.func 95) #[] #[]),(6,.bool false),(15,.slice (some ⟨b13,o14,none⟩) l.length cap),(16,.int .i64 ((l.length:Nat):Int)),(17,.int .i64 (((k+1):Nat):Int))]).noviews.dropB 2⟩,by show _-_<_-_; omega⟩
  ·refine wp_exit<|κ6 _ _<|Sx.seqP fun _ κ42=>Sx.run S 1 [] [(6,.bool true)] fun ac S=>Sx.done<|κ42 _ _<|Vp.rt ?_
   refine Sx.ret1 S Tryz.results94 ?_
   exact⟨ret_bool (peq_end (by have:=of_decide_eq_false hc10; omega) (of_len hc4) hR),S.E⟩
def NodeD.eqP(a b:NodeD):Bool:=cond (((((((((((a.id) != b.id)||((a.kind) != b.kind))||((a.depth) != b.depth))||((a.clipRule) != b.clipRule))||(((a.opacity.toNat:Int)) != (b.opacity.toNat:Int)))||((a.blend) != b.blend))||(!(a.isolated==b.isolated)))||(!(a.knockout==b.knockout)))||((a.fillRule) != b.fillRule))||((a.samp) != b.samp)) (false) (((((((a.t.q.eq b.t.q)&&(decide (a.clip=b.clip)))&&(decide (a.path=b.path)))&&(paintsEq a.fill b.fill))&&(paintsEq a.stroke b.stroke))&&(a.style.eq b.style))&&(a.img.eq b.img))
theorem nodeEqual_any{w:World}{a b:NodeD}(h:NodeOk K w a)(h':NodeOk K w b) :
  Calls Tryz.prog 56 #[a.v,b.v] w fun e w'=>e = .returned (.bool (NodeD.eqP a b))∧Ext w w':=by
 skip
 refine Sx.enter Tryz.func56 Tryz.ntmps56 fun ac S=>Sx.seqP fun _ κ1=>Sx.newp S 2 a.cells fun ac u b2 E3 hb4 S=>Sx.newp S 3 b.cells fun ac u b5 E6 hb7 S=>Sx.run S 1 [] [(4,.bool false)] fun ac S=>Sx.done<|κ1 _ _<|wp_seq_k fun _ κ8=>Sx.seqP fun _ κ9=>Sx.run S 68 [.mem 1 0,.mem 0 0,.mem 1 1,.mem 0 1,.mem 1 2,.mem 0 2,.mem 1 28,.mem 0 28,.mem 1 29,.mem 0 29,.mem 1 30,.mem 0 30,.mem 1 31,.mem 0 31,.mem 1 32,.mem 0 32,.mem 1 34,.mem 0 34,.mem 1 46,.mem 0 46] [(72,.bool (((((((((((a.id) != b.id)||((a.kind) != b.kind))||((a.depth) != b.depth))||((a.clipRule) != b.clipRule))||(((a.opacity.toNat:Int)) != (b.opacity.toNat:Int)))||((a.blend) != b.blend))||(!(a.isolated==b.isolated)))||(!(a.knockout==b.knockout)))||((a.fillRule) != b.fillRule))||((a.samp) != b.samp)))] fun ac S=>Sx.done (κ9 _ _ ?_)
 refine Sx.cond S (fun hc10=>?_) (fun hc10=>?_)
 ·refine Sx.seqP fun _ κ11=>Sx.run S 1 [] [(4,.bool false)] fun ac S=>Sx.done<|κ11 _ _<|Vp.rt ?_
  have p0:=hc10
  refine Sx.ret1 S Tryz.results56 ?_
  exact⟨ret_bool (by unfold NodeD.eqP; simp only[p0,cond_true]),S.E⟩
 ·refine wp_skip<|κ8 _ _<|Sx.seqP fun _ κ12=>Sx.run S 4 [.mem 1 3,.mem 0 3] [(74,a.t.v),(76,b.t.v)] fun ac S=>Sx.callv S 77 (affEqual_q a.t.v b.t.v a.t.q b.t.q K _ ((AffD.toQ h.1.2.2.2.1 h.2.1).belowQ S.E) ((AffD.toQ h'.1.2.2.2.1 h'.2.1).belowQ S.E) h.2.2.2.2.1 h.2.2.2.2.2) fun ac u E13 S=>Sx.runC S 43 [.mem 1 27,.mem 0 27,.mem 1 33,.mem 0 33,.mem 1 35,.mem 0 35,.mem 1 42,.mem 0 42,.mem 1 36,.mem 0 36,.mem 1 43,.mem 0 43] [(_,_,(a.t.q.eq b.t.q),.bool (decide (a.clip=b.clip))),(_,_,((a.t.q.eq b.t.q)&&(decide (a.clip=b.clip))),.bool (decide (a.path=b.path))),(_,_,(((a.t.q.eq b.t.q)&&(decide (a.clip=b.clip)))&&(decide (a.path=b.path))),.bool (paintsEq a.fill b.fill)),(_,_,((((a.t.q.eq b.t.q)&&(decide (a.clip=b.clip)))&&(decide (a.path=b.path)))&&(paintsEq a.fill b.fill)),.bool (paintsEq a.stroke b.stroke)),(_,_,(((((a.t.q.eq b.t.q)&&(decide (a.clip=b.clip)))&&(decide (a.path=b.path)))&&(paintsEq a.fill b.fill))&&(paintsEq a.stroke b.stroke)),.bool (a.style.eq b.style)),(_,_,((((((a.t.q.eq b.t.q)&&(decide (a.clip=b.clip)))&&(decide (a.path=b.path)))&&(paintsEq a.fill b.fill))&&(paintsEq a.stroke b.stroke))&&(a.style.eq b.style)),.bool (a.img.eq b.img))] [(4,.bool (((((((a.t.q.eq b.t.q)&&(decide (a.clip=b.clip)))&&(decide (a.path=b.path)))&&(paintsEq a.fill b.fill))&&(paintsEq a.stroke b.stroke))&&(a.style.eq b.style))&&(a.img.eq b.img)))] ⟨fun u hC g=>pathEqual_any (l:=a.clip) (m:=b.clip) (h.1.2.2.2.2.1.1.below (Ext.trans' S.E hC)) (h'.1.2.2.2.2.1.1.below (Ext.trans' S.E hC)),fun u hC g=>pathEqual_any (l:=a.path) (m:=b.path) (h.1.2.2.2.2.2.2.2.1.1.below (Ext.trans' S.E hC)) (h'.1.2.2.2.2.2.2.2.1.1.below (Ext.trans' S.E hC)),fun u hC g=>slPaints_any (l:=a.fill) (m:=b.fill) (K:=K) (h.1.2.2.2.2.2.2.2.2.2.1.below (Ext.trans' S.E hC)) (h'.1.2.2.2.2.2.2.2.2.2.1.below (Ext.trans' S.E hC)) h.2.2.1 h'.2.2.1 h.2.2.2.2.1 h.2.2.2.2.2,fun u hC g=>slPaints_any (l:=a.stroke) (m:=b.stroke) (K:=K) (h.1.2.2.2.2.2.2.2.2.2.2.2.1.below (Ext.trans' S.E hC)) (h'.1.2.2.2.2.2.2.2.2.2.2.2.1.below (Ext.trans' S.E hC)) h.2.2.2.1 h'.2.2.2.1 h.2.2.2.2.1 h.2.2.2.2.2,fun u hC g=>samePen_any (p:=a.style) (q:=b.style) (h.1.2.2.2.2.2.2.2.2.2.2.1.below (Ext.trans' S.E hC)) (h'.1.2.2.2.2.2.2.2.2.2.2.1.below (Ext.trans' S.E hC)),fun u hC g=>imgEqual_any (m:=a.img) (n:=b.img) (h.1.2.2.2.2.2.2.2.2.2.2.2.2.1.below (Ext.trans' S.E hC)) (h'.1.2.2.2.2.2.2.2.2.2.2.2.2.1.below (Ext.trans' S.E hC)),trivial⟩ fun ac u E14 S=>Sx.done<|κ12 _ _<|Vp.rt ?_
  have p0:=hc10
  refine Sx.ret1 S Tryz.results56 ?_
  exact⟨ret_bool (by unfold NodeD.eqP; simp only[p0,cond_false]),S.E⟩
end Go.Proofs.YtfmkkemfhjkajaaGreatDoor
end
section
namespace Go.Proofs.YtfmkkemfhjkajaaGreatDoor
variable{K:Nat}
instance q6dec:DecidableEq Q6:=fun P Q=>decidable_of_iff (P.a=Q.a∧P.b=Q.b∧P.c=Q.c∧P.d=Q.d∧P.e=Q.e∧P.f=Q.f) (by
 obtain⟨a,b,c,d,e,f⟩:=P
 obtain⟨a',b',c',d',e',f'⟩:=Q
 simp)
structure ImgK where
 w:Int
 h:Int
 l:List PixD
deriving DecidableEq
structure PaintK where
 kind:Int
 color:PixD
 p0:PtD
 p1:PtD
 radius:Int
 stops:List StopD
 spread:Int
 img:ImgK
 samp:Int
 q:Q6
deriving DecidableEq
structure StyleK where
 width:Int
 join:Int
 cap:Int
 miter:Int
 dash:List Int
 phase:Int
deriving DecidableEq
structure NodeK where
 id:Int
 kind:Int
 depth:Int
 q:Q6
 clip:List SegD
 clipRule:Int
 opacity:UInt8
 blend:Int
 isolated:Bool
 knockout:Bool
 path:List SegD
 fillRule:Int
 fill:List PaintK
 style:StyleK
 stroke:List PaintK
 img:ImgK
 samp:Int
deriving DecidableEq
def ImgD.key(m:ImgD):ImgK:=⟨m.w,m.h,m.l⟩
def PaintD.key(p:PaintD):PaintK:=⟨p.kind,p.color,p.p0,p.p1,p.radius,p.stops,p.spread,p.img.key,p.samp,p.t.q⟩
def StyleD.key(p:StyleD):StyleK:=⟨p.width,p.join,p.cap,p.miter,p.dash,p.phase⟩
def NodeD.key(n:NodeD):NodeK:=⟨n.id,n.kind,n.depth,n.t.q,n.clip,n.clipRule,n.opacity,n.blend,n.isolated,n.knockout,n.path,n.fillRule,n.fill.map PaintD.key,n.style.key,n.stroke.map PaintD.key,n.img.key,n.samp⟩
theorem u8_iff{a b:UInt8}:(a.toNat:Int)=(b.toNat:Int)↔a=b:=⟨u8_inj,fun h=>by rw[h]⟩
theorem pix_iff{a b:PixD}:(a.r=b.r∧a.g=b.g∧a.b=b.b∧a.a=b.a)↔a=b:=by cases a; cases b; simp
theorem pt_iff{a b:PtD}:(a.x=b.x∧a.y=b.y)↔a=b:=by cases a; cases b; simp
theorem img_eqk(m n:ImgD):m.eq n=decide (m.key=n.key):=by
 rw[Bool.eq_iff_iff]; simp[ImgD.eq,ImgD.key]
theorem sty_eqk(p q:StyleD):p.eq q=decide (p.key=q.key):=by
 rw[Bool.eq_iff_iff]; simp only[StyleD.eq,StyleD.key,StyleK.mk.injEq,Bool.and_eq_true,beq_iff_eq,decide_eq_true_eq,and_assoc]
 constructor
 ·rintro⟨h1,h2,h3,h4,h5,h6⟩; exact⟨h1,h2,h3,h4,h6,h5⟩
 ·rintro⟨h1,h2,h3,h4,h5,h6⟩; exact⟨h1,h2,h3,h4,h6,h5⟩
theorem q6_same(P Q:Q6):P.same Q=decide (P=Q):=by
 obtain⟨a,b,c,d,e,f⟩:=P
 obtain⟨a',b',c',d',e',f'⟩:=Q
 rw[Bool.eq_iff_iff]; simp[Q6.same]
theorem q6_eq{P Q:Q6}(hp:Nrm6 P)(hq:Nrm6 Q):P.eq Q=decide (P=Q):=by rw[←Q6.same_eq hp hq,q6_same]
theorem PaintD.eq_key{p q:PaintD}(hp:Nrm6 p.t.q)(hq:Nrm6 q.t.q):p.eq q=decide (p.key=q.key):=by
 rw[Bool.eq_iff_iff]
 unfold PaintD.eq
 rw[q6_eq hp hq,img_eqk]
 simp only[Bool.and_eq_true,beq_iff_eq,decide_eq_true_eq,u8_iff,pix_iff,pt_iff,PaintD.key,PaintK.mk.injEq,and_assoc]
 constructor
 ·rintro⟨h1,h2,h3,h4,h5,h6,h7,h8,h9,h10⟩; exact⟨h1,h2,h3,h4,h5,h8,h6,h9,h7,h10⟩
 ·rintro⟨h1,h2,h3,h4,h5,h6,h7,h8,h9,h10⟩; exact⟨h1,h2,h3,h4,h5,h7,h9,h6,h8,h10⟩
/-- All transforms of a list of paints are in lowest terms. -/
def NrmP(l:List PaintD):Prop:=∀p∈l,Nrm6 p.t.q
theorem paintsEq_key:∀{l m:List PaintD},NrmP l→NrmP m→paintsEq l m=decide (l.map PaintD.key=m.map PaintD.key)
 | [],[],_,_=>by simp[paintsEq]
 | [],y::m,_,_=>by simp[paintsEq]
 | x::l,[],_,_=>by simp[paintsEq]
 | x::l,y::m,hl,hm=>by
  have ih:=paintsEq_key (l:=l) (m:=m) (fun p hp=>hl p (List.mem_cons_of_mem _ hp)) (fun p hp=>hm p (List.mem_cons_of_mem _ hp))
  have e:=PaintD.eq_key (hl x List.mem_cons_self) (hm y List.mem_cons_self)
  rw[Bool.eq_iff_iff]at ih e ⊢
  simp only[paintsEq,List.length_cons,Nat.add_right_cancel_iff,List.zip_cons_cons,List.all_cons,List.map_cons,List.cons.injEq,Bool.and_eq_true,decide_eq_true_eq]at ih e ⊢
  rw[e,←ih]
  constructor
  ·rintro⟨h1,h2,h3⟩; exact⟨h2,h1,h3⟩
  ·rintro⟨h1,h2,h3⟩; exact⟨h2,h1,h3⟩
/-- All transforms of a node are in lowest terms. -/
def NodeD.nrm(n:NodeD):Prop:=Nrm6 n.t.q∧NrmP n.fill∧NrmP n.stroke
theorem NodeOk.nrm{w:World}{n:NodeD}(h:NodeOk K w n):n.nrm:=
 ⟨(AffD.toQ h.1.2.2.2.1 h.2.1).nrm,fun p hp=>(AffD.toQ (h.1.2.2.2.2.2.2.2.2.2.1.2 p hp).2.2.2.2.2.2.2.2.2 (h.2.2.1 p hp)).nrm,fun p hp=>(AffD.toQ (h.1.2.2.2.2.2.2.2.2.2.2.2.1.2 p hp).2.2.2.2.2.2.2.2.2 (h.2.2.2.1 p hp)).nrm⟩
theorem cond_ff'{a b:Bool}:cond a false b=(!a&&b):=by cases a<;>rfl
theorem eqP_key{a b:NodeD}(ha:a.nrm)(hb:b.nrm):a.eqP b=decide (a.key=b.key):=by
 rw[Bool.eq_iff_iff]
 unfold NodeD.eqP
 rw[q6_eq ha.1 hb.1,paintsEq_key ha.2.1 hb.2.1,paintsEq_key ha.2.2 hb.2.2,img_eqk,sty_eqk]
 simp only[cond_ff',Bool.and_eq_true,Bool.not_eq_true',Bool.or_eq_false_iff,bne_eq_false_iff_eq,Bool.not_eq_false',beq_iff_eq,decide_eq_true_eq,u8_iff,NodeD.key,NodeK.mk.injEq,and_assoc]
 constructor
 ·rintro⟨h1,h2,h3,h4,h5,h6,h7,h8,h9,h10,h11,h12,h13,h14,h15,h16,h17⟩; exact⟨h1,h2,h3,h11,h12,h4,h5,h6,h7,h8,h13,h9,h14,h16,h15,h17,h10⟩
 ·rintro⟨h1,h2,h3,h11,h12,h4,h5,h6,h7,h8,h13,h9,h14,h16,h15,h17,h10⟩; exact⟨h1,h2,h3,h4,h5,h6,h7,h8,h9,h10,h11,h12,h13,h14,h15,h16,h17⟩
/- What Check says of a node is what reference 36 says. -/
end Go.Proofs.YtfmkkemfhjkajaaGreatDoor
end
