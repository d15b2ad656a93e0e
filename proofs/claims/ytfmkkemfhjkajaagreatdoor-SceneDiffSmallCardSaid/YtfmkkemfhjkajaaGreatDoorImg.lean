/- slices.Equal of the rows that nodes hold. -/
import Derived.Test.YtfmkkemfhjkajaaGreatDoorPath
set_option maxHeartbeats 1600000
set_option maxRecDepth 100000
namespace Go.Proofs.YtfmkkemfhjkajaaGreatDoor
open Go.RowKit
variable{α:Type}
set_option linter.unusedVariables false
theorem ret_bool{a b:Bool}(h:a=b):Ending.returned (.bool a) = .returned (.bool b):=by rw[h]
theorem rows_ne_len [DecidableEq α]{l m:List α}(h:(((l.length:Nat):Int) != ((m.length:Nat):Int))=true):false=decide (l=m):=by
 have h1:l≠m:=fun e=>by subst e; simp at h
 simp[h1]
theorem of_len{l m:List α}(h:(((l.length:Nat):Int) != ((m.length:Nat):Int))=false):l.length=m.length:=by simp at h; omega
theorem rows_eq [DecidableEq α]{l m:List α}{k:Nat}(hk:l.length≤k)(h:l.length=m.length)(hR:l.take k=m.take k):true=decide (l=m):=by
 rw[List.take_of_length_le hk,List.take_of_length_le (by omega)]at hR; simp[hR]
theorem rows_ne [DecidableEq α]{l m:List α}{k:Nat}(h1:k<l.length)(h2:k<m.length)(h:l[k]≠m[k]):false=decide (l=m):=by
 have h1:l≠m:=fun e=>by subst e; exact h rfl
 simp[h1]
theorem rows_step{l m:List α}{k:Nat}(h1:k<l.length)(h2:k<m.length)(hR:l.take k=m.take k)(h:l[k]=m[k]):l.take (k+1)=m.take (k+1):=by
 rw[List.take_succ_eq_append_getElem h1,List.take_succ_eq_append_getElem h2,hR,h]
theorem eq_Seg{x y:SegD}(h:(!((x.verb==y.verb)&&((x.a.x==y.a.x)&&((x.a.y==y.a.y)&&((x.b.x==y.b.x)&&((x.b.y==y.b.y)&&((x.c.x==y.c.x)&&(x.c.y==y.c.y))))))))=false):x=y:=by
 obtain⟨v,⟨a,b⟩,⟨c,d⟩,⟨e,f⟩⟩:=x
 obtain⟨v',⟨a',b'⟩,⟨c',d'⟩,⟨e',f'⟩⟩:=y
 simp at h ⊢; omega
theorem u8_inj{a b:UInt8}(h:(a.toNat:Int)=(b.toNat:Int)):a=b:=UInt8.toNat_inj.1 (by omega)
theorem eq_Pix{x y:PixD}(h:(!(((x.r.toNat:Int)==y.r.toNat)&&(((x.g.toNat:Int)==y.g.toNat)&&(((x.b.toNat:Int)==y.b.toNat)&&((x.a.toNat:Int)==y.a.toNat)))))=false):x=y:=by
 obtain⟨a,b,c,d⟩:=x
 obtain⟨a',b',c',d'⟩:=y
 simp only[Bool.not_eq_false',Bool.and_eq_true,beq_iff_eq]at h
 rw[u8_inj h.1,u8_inj h.2.1,u8_inj h.2.2.1,u8_inj h.2.2.2]
theorem eq_Stop{x y:StopD}(h:(!((x.o==y.o)&&(((x.c.r.toNat:Int)==y.c.r.toNat)&&(((x.c.g.toNat:Int)==y.c.g.toNat)&&(((x.c.b.toNat:Int)==y.c.b.toNat)&&((x.c.a.toNat:Int)==y.c.a.toNat))))))=false):x=y:=by
 obtain⟨o,c⟩:=x
 obtain⟨o',c'⟩:=y
 simp only[Bool.not_eq_false',Bool.and_eq_true,beq_iff_eq]at h
 have:c=c':=eq_Pix (by simp only[Bool.not_eq_false',Bool.and_eq_true,beq_iff_eq]; exact h.2)
 rw[h.1,this]
theorem eq_Int{x y:Int}(h:(x != y)=false):x=y:=by simpa using h
theorem slSeg_any{w:World}{v u:Value}{l m:List SegD}(h:IsRowN 7 SegD.cells w v l)(h':IsRowN 7 SegD.cells w u m) :
  Calls Tryz.prog 137 #[v,u] w fun e w'=>e = .returned (.bool (decide (l=m)))∧Ext w w':=by
 obtain⟨a,cap,rfl⟩:=h.shape
 obtain⟨d,cap',rfl⟩:=h'.shape
 have hmax:l.length≤9223372036854775807:=h.len
 refine Sx.enter Tryz.func137 Tryz.ntmps137 fun ac S=>Sx.seqP fun _ κ1=>Sx.run S 1 [] [(4,.bool false)] fun ac S=>Sx.done<|κ1 _ _<|wp_seq_k fun _ κ2=>Sx.seqP fun _ κ3=>Sx.run S 5 [] [(10,.bool ((((l.length:Nat):Int)) != ((m.length:Nat):Int)))] fun ac S=>Sx.done (κ3 _ _ ?_)
 refine Sx.cond S (fun hc4=>?_) (fun hc4=>?_)
 ·refine Sx.seqP fun _ κ5=>Sx.run S 1 [] [(4,.bool false)] fun ac S=>Sx.done<|κ5 _ _<|Vp.rt ?_
  refine Sx.ret1 S Tryz.results137 ?_
  exact⟨ret_bool (rows_ne_len hc4),S.E⟩
 ·refine wp_skip<|κ2 _ _<|wp_seq_k fun _ κ6=>Sx.seqP fun _ κ7=>Sx.run S 3 [] [(12,.int .i64 ((l.length:Nat):Int)),(13,.int .i64 0)] fun ac S=>Sx.done<|κ7 _ _<|wp_block ?_
  refine Vp.loop (ι:=Nat) (fun p a' w'=>p≤l.length∧(l.take p=m.take p)∧Sx.St w a' w' 26 [(0,.slice a l.length cap),(1,.slice d m.length cap'),(4,.bool false),(12,.int .i64 ((l.length:Nat):Int)),(13,.int .i64 ((p:Nat):Int))] [] []) (fun p=>l.length-p) (0) ⟨Nat.zero_le _,rfl,(S.sub [(0,.slice a l.length cap),(1,.slice d m.length cap'),(4,.bool false),(12,.int .i64 ((l.length:Nat):Int)),(13,.int .i64 ((0:Nat):Int))]).noviews⟩ ?_
  rintro k ac u hI
  try dsimp only at hI
  obtain⟨hk,hR,S⟩:=hI
  refine Sx.seqP fun _ κ8=>Sx.run S 1 [] [(14,.bool (decide (((k:Nat):Int)<((l.length:Nat):Int))))] fun ac S=>Sx.done<|κ8 _ _<|wp_seq_k (fun _ κ9=>?_)
  refine Sx.cond S (fun hc10=>?_) (fun hc10=>?_)
  ·refine wp_skip<|κ9 _ _<|wp_seq_k fun _ κ11=>wp_block<|Sx.seqP fun _ κ12=>Sx.run S 2 [] [(5,.int .i64 ((k:Nat):Int))] fun ac S=>Sx.done<|κ12 _ _<|wp_seq_k (fun _ κ13=>?_)
   have lt20:k<l.length:=by have:=of_decide_eq_true hc10; omega
   obtain⟨b15,o16,c17,hv,hb22,hr18⟩:=Vp.rowN_range2 h (fun _=>rfl) (k) lt20
   simp only[Value.slice.injEq,true_and]at hv
   obtain⟨rfl,rfl⟩:=hv
   obtain⟨x21,hx19⟩:∃z,l[k]=z:=⟨_,rfl⟩
   rw[hx19]at hr18
   have S:=S.view0 hb22 hr18
   have lt28:k<m.length:=by have:=of_len hc4; have:=of_decide_eq_true hc10; omega
   obtain⟨b23,o24,c25,hv,hb30,hr26⟩:=Vp.rowN_range2 h' (fun _=>rfl) (k) lt28
   simp only[Value.slice.injEq,true_and]at hv
   obtain⟨rfl,rfl⟩:=hv
   obtain⟨y29,hx27⟩:∃z,m[k]=z:=⟨_,rfl⟩
   rw[hx27]at hr26
   have S:=S.view0 hb30 hr26
   refine Sx.draw S 9 [.idx k l.length,.mem 1 0,.idx k m.length,.mem 0 0,.cmp .neq 62 (.tmp 19) (.tmp 23) (.agg #[.int .i64 x21.verb,.int .i64 x21.a.x,.int .i64 x21.a.y,.int .i64 x21.b.x,.int .i64 x21.b.y,.int .i64 x21.c.x,.int .i64 x21.c.y]) (.agg #[.int .i64 y29.verb,.int .i64 y29.a.x,.int .i64 y29.a.y,.int .i64 y29.b.x,.int .i64 y29.b.y,.int .i64 y29.c.x,.int .i64 y29.c.y]) (.bool (!((x21.verb==y29.verb)&&((x21.a.x==y29.a.x)&&((x21.a.y==y29.a.y)&&((x21.b.x==y29.b.x)&&((x21.b.y==y29.b.y)&&((x21.c.x==y29.c.x)&&(x21.c.y==y29.c.y)))))))))] [] [(24,.bool (!((x21.verb==y29.verb)&&((x21.a.x==y29.a.x)&&((x21.a.y==y29.a.y)&&((x21.b.x==y29.b.x)&&((x21.b.y==y29.b.y)&&((x21.c.x==y29.c.x)&&(x21.c.y==y29.c.y)))))))))] trivial (hk:=⟨lt20,lt28,Sx.cmp_agg (fun _=>neSeg ..) (by kernel_rfl),trivial⟩) fun ac u E14 S=>Sx.done (κ13 _ _ ?_)
   refine Sx.cond S (fun hc31=>?_) (fun hc31=>?_)
   ·refine Sx.seqP fun _ κ32=>Sx.run S 1 [] [(4,.bool false)] fun ac S=>Sx.done<|κ32 _ _<|Vp.rt ?_
    refine Sx.ret1 S Tryz.results137 ?_
    exact⟨ret_bool (rows_ne lt20 lt28 (fun e=>by have hq:=hc31; rw[hx19,hx27]at e; subst e; simp at hq)),S.E⟩
   ·refine wp_skip<|κ11 _ _<|Vp.region<|Sx.run S 2 [.re 25 (.int .i64 (IntKind.i64.wrap (((k:Nat):Int)+1))) (.int .i64 (((k+1):Nat):Int))] [(13,.int .i64 (((k+1):Nat):Int))] (hk:=⟨Sx.wrap_succ (by omega),trivial⟩) fun ac S=>Sx.done ?_
    show ∃i',_∧_
    exact⟨(k+1),⟨by omega,(rows_step lt20 lt28 hR (by rw[hx19,hx27]; exact eq_Seg hc31)),(S.sub [(0,.slice (some ⟨b15,o16,none⟩) l.length cap),(1,.slice (some ⟨b23,o24,none⟩) m.length cap'),(4,.bool false),(12,.int .i64 ((l.length:Nat):Int)),(13,.int .i64 (((k+1):Nat):Int))]).noviews⟩,by show _-_<_-_; omega⟩
  ·refine wp_exit<|κ6 _ _<|Sx.seqP fun _ κ33=>Sx.run S 1 [] [(4,.bool true)] fun ac S=>Sx.done<|κ33 _ _<|Vp.rt ?_
   refine Sx.ret1 S Tryz.results137 ?_
   exact⟨ret_bool (rows_eq (by have:=of_decide_eq_false hc10; omega) (of_len hc4) hR),S.E⟩
theorem slStop_any{w:World}{v u:Value}{l m:List StopD}(h:IsRowN 5 StopD.cells w v l)(h':IsRowN 5 StopD.cells w u m) :
  Calls Tryz.prog 138 #[v,u] w fun e w'=>e = .returned (.bool (decide (l=m)))∧Ext w w':=by
 obtain⟨a,cap,rfl⟩:=h.shape
 obtain⟨d,cap',rfl⟩:=h'.shape
 have hmax:l.length≤9223372036854775807:=h.len
 refine Sx.enter Tryz.func138 Tryz.ntmps138 fun ac S=>Sx.seqP fun _ κ1=>Sx.run S 1 [] [(4,.bool false)] fun ac S=>Sx.done<|κ1 _ _<|wp_seq_k fun _ κ2=>Sx.seqP fun _ κ3=>Sx.run S 5 [] [(10,.bool ((((l.length:Nat):Int)) != ((m.length:Nat):Int)))] fun ac S=>Sx.done (κ3 _ _ ?_)
 refine Sx.cond S (fun hc4=>?_) (fun hc4=>?_)
 ·refine Sx.seqP fun _ κ5=>Sx.run S 1 [] [(4,.bool false)] fun ac S=>Sx.done<|κ5 _ _<|Vp.rt ?_
  refine Sx.ret1 S Tryz.results138 ?_
  exact⟨ret_bool (rows_ne_len hc4),S.E⟩
 ·refine wp_skip<|κ2 _ _<|wp_seq_k fun _ κ6=>Sx.seqP fun _ κ7=>Sx.run S 3 [] [(12,.int .i64 ((l.length:Nat):Int)),(13,.int .i64 0)] fun ac S=>Sx.done<|κ7 _ _<|wp_block ?_
  refine Vp.loop (ι:=Nat) (fun p a' w'=>p≤l.length∧(l.take p=m.take p)∧Sx.St w a' w' 26 [(0,.slice a l.length cap),(1,.slice d m.length cap'),(4,.bool false),(12,.int .i64 ((l.length:Nat):Int)),(13,.int .i64 ((p:Nat):Int))] [] []) (fun p=>l.length-p) (0) ⟨Nat.zero_le _,rfl,(S.sub [(0,.slice a l.length cap),(1,.slice d m.length cap'),(4,.bool false),(12,.int .i64 ((l.length:Nat):Int)),(13,.int .i64 ((0:Nat):Int))]).noviews⟩ ?_
  rintro k ac u hI
  try dsimp only at hI
  obtain⟨hk,hR,S⟩:=hI
  refine Sx.seqP fun _ κ8=>Sx.run S 1 [] [(14,.bool (decide (((k:Nat):Int)<((l.length:Nat):Int))))] fun ac S=>Sx.done<|κ8 _ _<|wp_seq_k (fun _ κ9=>?_)
  refine Sx.cond S (fun hc10=>?_) (fun hc10=>?_)
  ·refine wp_skip<|κ9 _ _<|wp_seq_k fun _ κ11=>wp_block<|Sx.seqP fun _ κ12=>Sx.run S 2 [] [(5,.int .i64 ((k:Nat):Int))] fun ac S=>Sx.done<|κ12 _ _<|wp_seq_k (fun _ κ13=>?_)
   have lt20:k<l.length:=by have:=of_decide_eq_true hc10; omega
   obtain⟨b15,o16,c17,hv,hb22,hr18⟩:=Vp.rowN_range2 h (fun _=>rfl) (k) lt20
   simp only[Value.slice.injEq,true_and]at hv
   obtain⟨rfl,rfl⟩:=hv
   obtain⟨x21,hx19⟩:∃z,l[k]=z:=⟨_,rfl⟩
   rw[hx19]at hr18
   have S:=S.view0 hb22 hr18
   have lt28:k<m.length:=by have:=of_len hc4; have:=of_decide_eq_true hc10; omega
   obtain⟨b23,o24,c25,hv,hb30,hr26⟩:=Vp.rowN_range2 h' (fun _=>rfl) (k) lt28
   simp only[Value.slice.injEq,true_and]at hv
   obtain⟨rfl,rfl⟩:=hv
   obtain⟨y29,hx27⟩:∃z,m[k]=z:=⟨_,rfl⟩
   rw[hx27]at hr26
   have S:=S.view0 hb30 hr26
   refine Sx.draw S 9 [.idx k l.length,.mem 1 0,.idx k m.length,.mem 0 0,.cmp .neq 155 (.tmp 19) (.tmp 23) (.agg #[.int .i64 x21.o,.int .u8 (x21.c.r.toNat:Int),.int .u8 (x21.c.g.toNat:Int),.int .u8 (x21.c.b.toNat:Int),.int .u8 (x21.c.a.toNat:Int)]) (.agg #[.int .i64 y29.o,.int .u8 (y29.c.r.toNat:Int),.int .u8 (y29.c.g.toNat:Int),.int .u8 (y29.c.b.toNat:Int),.int .u8 (y29.c.a.toNat:Int)]) (.bool (!((x21.o==y29.o)&&(((x21.c.r.toNat:Int)==(y29.c.r.toNat:Int))&&(((x21.c.g.toNat:Int)==(y29.c.g.toNat:Int))&&(((x21.c.b.toNat:Int)==(y29.c.b.toNat:Int))&&((x21.c.a.toNat:Int)==(y29.c.a.toNat:Int))))))))] [] [(24,.bool (!((x21.o==y29.o)&&(((x21.c.r.toNat:Int)==(y29.c.r.toNat:Int))&&(((x21.c.g.toNat:Int)==(y29.c.g.toNat:Int))&&(((x21.c.b.toNat:Int)==(y29.c.b.toNat:Int))&&((x21.c.a.toNat:Int)==(y29.c.a.toNat:Int))))))))] trivial (hk:=⟨lt20,lt28,Sx.cmp_agg (fun _=>neStop ..) (by kernel_rfl),trivial⟩) fun ac u E14 S=>Sx.done (κ13 _ _ ?_)
   refine Sx.cond S (fun hc31=>?_) (fun hc31=>?_)
   ·refine Sx.seqP fun _ κ32=>Sx.run S 1 [] [(4,.bool false)] fun ac S=>Sx.done<|κ32 _ _<|Vp.rt ?_
    refine Sx.ret1 S Tryz.results138 ?_
    exact⟨ret_bool (rows_ne lt20 lt28 (fun e=>by have hq:=hc31; rw[hx19,hx27]at e; subst e; simp at hq)),S.E⟩
   ·refine wp_skip<|κ11 _ _<|Vp.region<|Sx.run S 2 [.re 25 (.int .i64 (IntKind.i64.wrap (((k:Nat):Int)+1))) (.int .i64 (((k+1):Nat):Int))] [(13,.int .i64 (((k+1):Nat):Int))] (hk:=⟨Sx.wrap_succ (by omega),trivial⟩) fun ac S=>Sx.done ?_
    show ∃i',_∧_
    exact⟨(k+1),⟨by omega,(rows_step lt20 lt28 hR (by rw[hx19,hx27]; exact eq_Stop hc31)),(S.sub [(0,.slice (some ⟨b15,o16,none⟩) l.length cap),(1,.slice (some ⟨b23,o24,none⟩) m.length cap'),(4,.bool false),(12,.int .i64 ((l.length:Nat):Int)),(13,.int .i64 (((k+1):Nat):Int))]).noviews⟩,by show _-_<_-_; omega⟩
  ·refine wp_exit<|κ6 _ _<|Sx.seqP fun _ κ33=>Sx.run S 1 [] [(4,.bool true)] fun ac S=>Sx.done<|κ33 _ _<|Vp.rt ?_
   refine Sx.ret1 S Tryz.results138 ?_
   exact⟨ret_bool (rows_eq (by have:=of_decide_eq_false hc10; omega) (of_len hc4) hR),S.E⟩
theorem slPix_any{w:World}{v u:Value}{l m:List PixD}(h:IsRowN 4 PixD.cells w v l)(h':IsRowN 4 PixD.cells w u m) :
  Calls Tryz.prog 140 #[v,u] w fun e w'=>e = .returned (.bool (decide (l=m)))∧Ext w w':=by
 obtain⟨a,cap,rfl⟩:=h.shape
 obtain⟨d,cap',rfl⟩:=h'.shape
 have hmax:l.length≤9223372036854775807:=h.len
 refine Sx.enter Tryz.func140 Tryz.ntmps140 fun ac S=>Sx.seqP fun _ κ1=>Sx.run S 1 [] [(4,.bool false)] fun ac S=>Sx.done<|κ1 _ _<|wp_seq_k fun _ κ2=>Sx.seqP fun _ κ3=>Sx.run S 5 [] [(10,.bool ((((l.length:Nat):Int)) != ((m.length:Nat):Int)))] fun ac S=>Sx.done (κ3 _ _ ?_)
 refine Sx.cond S (fun hc4=>?_) (fun hc4=>?_)
 ·refine Sx.seqP fun _ κ5=>Sx.run S 1 [] [(4,.bool false)] fun ac S=>Sx.done<|κ5 _ _<|Vp.rt ?_
  refine Sx.ret1 S Tryz.results140 ?_
  exact⟨ret_bool (rows_ne_len hc4),S.E⟩
 ·refine wp_skip<|κ2 _ _<|wp_seq_k fun _ κ6=>Sx.seqP fun _ κ7=>Sx.run S 3 [] [(12,.int .i64 ((l.length:Nat):Int)),(13,.int .i64 0)] fun ac S=>Sx.done<|κ7 _ _<|wp_block ?_
  refine Vp.loop (ι:=Nat) (fun p a' w'=>p≤l.length∧(l.take p=m.take p)∧Sx.St w a' w' 26 [(0,.slice a l.length cap),(1,.slice d m.length cap'),(4,.bool false),(12,.int .i64 ((l.length:Nat):Int)),(13,.int .i64 ((p:Nat):Int))] [] []) (fun p=>l.length-p) (0) ⟨Nat.zero_le _,rfl,(S.sub [(0,.slice a l.length cap),(1,.slice d m.length cap'),(4,.bool false),(12,.int .i64 ((l.length:Nat):Int)),(13,.int .i64 ((0:Nat):Int))]).noviews⟩ ?_
  rintro k ac u hI
  try dsimp only at hI
  obtain⟨hk,hR,S⟩:=hI
  refine Sx.seqP fun _ κ8=>Sx.run S 1 [] [(14,.bool (decide (((k:Nat):Int)<((l.length:Nat):Int))))] fun ac S=>Sx.done<|κ8 _ _<|wp_seq_k (fun _ κ9=>?_)
  refine Sx.cond S (fun hc10=>?_) (fun hc10=>?_)
  ·refine wp_skip<|κ9 _ _<|wp_seq_k fun _ κ11=>wp_block<|Sx.seqP fun _ κ12=>Sx.run S 2 [] [(5,.int .i64 ((k:Nat):Int))] fun ac S=>Sx.done<|κ12 _ _<|wp_seq_k (fun _ κ13=>?_)
   have lt20:k<l.length:=by have:=of_decide_eq_true hc10; omega
   obtain⟨b15,o16,c17,hv,hb22,hr18⟩:=Vp.rowN_range2 h (fun _=>rfl) (k) lt20
   simp only[Value.slice.injEq,true_and]at hv
   obtain⟨rfl,rfl⟩:=hv
   obtain⟨x21,hx19⟩:∃z,l[k]=z:=⟨_,rfl⟩
   rw[hx19]at hr18
   have S:=S.view0 hb22 hr18
   have lt28:k<m.length:=by have:=of_len hc4; have:=of_decide_eq_true hc10; omega
   obtain⟨b23,o24,c25,hv,hb30,hr26⟩:=Vp.rowN_range2 h' (fun _=>rfl) (k) lt28
   simp only[Value.slice.injEq,true_and]at hv
   obtain⟨rfl,rfl⟩:=hv
   obtain⟨y29,hx27⟩:∃z,m[k]=z:=⟨_,rfl⟩
   rw[hx27]at hr26
   have S:=S.view0 hb30 hr26
   refine Sx.draw S 9 [.idx k l.length,.mem 1 0,.idx k m.length,.mem 0 0,.cmp .neq 122 (.tmp 19) (.tmp 23) (.agg #[.int .u8 (x21.r.toNat:Int),.int .u8 (x21.g.toNat:Int),.int .u8 (x21.b.toNat:Int),.int .u8 (x21.a.toNat:Int)]) (.agg #[.int .u8 (y29.r.toNat:Int),.int .u8 (y29.g.toNat:Int),.int .u8 (y29.b.toNat:Int),.int .u8 (y29.a.toNat:Int)]) (.bool (!(((x21.r.toNat:Int)==(y29.r.toNat:Int))&&(((x21.g.toNat:Int)==(y29.g.toNat:Int))&&(((x21.b.toNat:Int)==(y29.b.toNat:Int))&&((x21.a.toNat:Int)==(y29.a.toNat:Int)))))))] [] [(24,.bool (!(((x21.r.toNat:Int)==(y29.r.toNat:Int))&&(((x21.g.toNat:Int)==(y29.g.toNat:Int))&&(((x21.b.toNat:Int)==(y29.b.toNat:Int))&&((x21.a.toNat:Int)==(y29.a.toNat:Int)))))))] trivial (hk:=⟨lt20,lt28,Sx.cmp_agg (fun _=>nePix ..) (by kernel_rfl),trivial⟩) fun ac u E14 S=>Sx.done (κ13 _ _ ?_)
   refine Sx.cond S (fun hc31=>?_) (fun hc31=>?_)
   ·refine Sx.seqP fun _ κ32=>Sx.run S 1 [] [(4,.bool false)] fun ac S=>Sx.done<|κ32 _ _<|Vp.rt ?_
    refine Sx.ret1 S Tryz.results140 ?_
    exact⟨ret_bool (rows_ne lt20 lt28 (fun e=>by have hq:=hc31; rw[hx19,hx27]at e; subst e; simp at hq)),S.E⟩
   ·refine wp_skip<|κ11 _ _<|Vp.region<|Sx.run S 2 [.re 25 (.int .i64 (IntKind.i64.wrap (((k:Nat):Int)+1))) (.int .i64 (((k+1):Nat):Int))] [(13,.int .i64 (((k+1):Nat):Int))] (hk:=⟨Sx.wrap_succ (by omega),trivial⟩) fun ac S=>Sx.done ?_
    show ∃i',_∧_
    exact⟨(k+1),⟨by omega,(rows_step lt20 lt28 hR (by rw[hx19,hx27]; exact eq_Pix hc31)),(S.sub [(0,.slice (some ⟨b15,o16,none⟩) l.length cap),(1,.slice (some ⟨b23,o24,none⟩) m.length cap'),(4,.bool false),(12,.int .i64 ((l.length:Nat):Int)),(13,.int .i64 (((k+1):Nat):Int))]).noviews⟩,by show _-_<_-_; omega⟩
  ·refine wp_exit<|κ6 _ _<|Sx.seqP fun _ κ33=>Sx.run S 1 [] [(4,.bool true)] fun ac S=>Sx.done<|κ33 _ _<|Vp.rt ?_
   refine Sx.ret1 S Tryz.results140 ?_
   exact⟨ret_bool (rows_eq (by have:=of_decide_eq_false hc10; omega) (of_len hc4) hR),S.E⟩
theorem slInt_any{w:World}{v u:Value}{l m:List Int}(h:IsRowN 1 (fun x=>[i64v x]) w v l)(h':IsRowN 1 (fun x=>[i64v x]) w u m) :
  Calls Tryz.prog 139 #[v,u] w fun e w'=>e = .returned (.bool (decide (l=m)))∧Ext w w':=by
 obtain⟨a,cap,rfl⟩:=h.shape
 obtain⟨d,cap',rfl⟩:=h'.shape
 have hmax:l.length≤9223372036854775807:=h.len
 refine Sx.enter Tryz.func139 Tryz.ntmps139 fun ac S=>Sx.seqP fun _ κ1=>Sx.run S 1 [] [(4,.bool false)] fun ac S=>Sx.done<|κ1 _ _<|wp_seq_k fun _ κ2=>Sx.seqP fun _ κ3=>Sx.run S 5 [] [(10,.bool ((((l.length:Nat):Int)) != ((m.length:Nat):Int)))] fun ac S=>Sx.done (κ3 _ _ ?_)
 refine Sx.cond S (fun hc4=>?_) (fun hc4=>?_)
 ·refine Sx.seqP fun _ κ5=>Sx.run S 1 [] [(4,.bool false)] fun ac S=>Sx.done<|κ5 _ _<|Vp.rt ?_
  refine Sx.ret1 S Tryz.results139 ?_
  exact⟨ret_bool (rows_ne_len hc4),S.E⟩
 ·refine wp_skip<|κ2 _ _<|wp_seq_k fun _ κ6=>Sx.seqP fun _ κ7=>Sx.run S 3 [] [(12,.int .i64 ((l.length:Nat):Int)),(13,.int .i64 0)] fun ac S=>Sx.done<|κ7 _ _<|wp_block ?_
  refine Vp.loop (ι:=Nat) (fun p a' w'=>p≤l.length∧(l.take p=m.take p)∧Sx.St w a' w' 26 [(0,.slice a l.length cap),(1,.slice d m.length cap'),(4,.bool false),(12,.int .i64 ((l.length:Nat):Int)),(13,.int .i64 ((p:Nat):Int))] [] []) (fun p=>l.length-p) (0) ⟨Nat.zero_le _,rfl,(S.sub [(0,.slice a l.length cap),(1,.slice d m.length cap'),(4,.bool false),(12,.int .i64 ((l.length:Nat):Int)),(13,.int .i64 ((0:Nat):Int))]).noviews⟩ ?_
  rintro k ac u hI
  try dsimp only at hI
  obtain⟨hk,hR,S⟩:=hI
  refine Sx.seqP fun _ κ8=>Sx.run S 1 [] [(14,.bool (decide (((k:Nat):Int)<((l.length:Nat):Int))))] fun ac S=>Sx.done<|κ8 _ _<|wp_seq_k (fun _ κ9=>?_)
  refine Sx.cond S (fun hc10=>?_) (fun hc10=>?_)
  ·refine wp_skip<|κ9 _ _<|wp_seq_k fun _ κ11=>wp_block<|Sx.seqP fun _ κ12=>Sx.run S 2 [] [(5,.int .i64 ((k:Nat):Int))] fun ac S=>Sx.done<|κ12 _ _<|wp_seq_k (fun _ κ13=>?_)
   have lt20:k<l.length:=by have:=of_decide_eq_true hc10; omega
   obtain⟨b15,o16,c17,hv,hb22,hr18⟩:=Vp.rowN_range2 h (fun _=>rfl) (k) lt20
   simp only[Value.slice.injEq,true_and]at hv
   obtain⟨rfl,rfl⟩:=hv
   obtain⟨x21,hx19⟩:∃z,l[k]=z:=⟨_,rfl⟩
   rw[hx19]at hr18
   have S:=S.view0 hb22 hr18
   have lt28:k<m.length:=by have:=of_len hc4; have:=of_decide_eq_true hc10; omega
   obtain⟨b23,o24,c25,hv,hb30,hr26⟩:=Vp.rowN_range2 h' (fun _=>rfl) (k) lt28
   simp only[Value.slice.injEq,true_and]at hv
   obtain⟨rfl,rfl⟩:=hv
   obtain⟨y29,hx27⟩:∃z,m[k]=z:=⟨_,rfl⟩
   rw[hx27]at hr26
   have S:=S.view0 hb30 hr26
   refine Sx.draw S 9 [.idx k l.length,.mem 1 0,.idx k m.length,.mem 0 0] [] [(24,.bool ((x21) != y29))] trivial (hk:=⟨lt20,lt28,trivial⟩) fun ac u E14 S=>Sx.done (κ13 _ _ ?_)
   refine Sx.cond S (fun hc31=>?_) (fun hc31=>?_)
   ·refine Sx.seqP fun _ κ32=>Sx.run S 1 [] [(4,.bool false)] fun ac S=>Sx.done<|κ32 _ _<|Vp.rt ?_
    refine Sx.ret1 S Tryz.results139 ?_
    exact⟨ret_bool (rows_ne lt20 lt28 (fun e=>by have hq:=hc31; rw[hx19,hx27]at e; subst e; simp at hq)),S.E⟩
   ·refine wp_skip<|κ11 _ _<|Vp.region<|Sx.run S 2 [.re 25 (.int .i64 (IntKind.i64.wrap (((k:Nat):Int)+1))) (.int .i64 (((k+1):Nat):Int))] [(13,.int .i64 (((k+1):Nat):Int))] (hk:=⟨Sx.wrap_succ (by omega),trivial⟩) fun ac S=>Sx.done ?_
    show ∃i',_∧_
    exact⟨(k+1),⟨by omega,(rows_step lt20 lt28 hR (by rw[hx19,hx27]; exact eq_Int hc31)),(S.sub [(0,.slice (some ⟨b15,o16,none⟩) l.length cap),(1,.slice (some ⟨b23,o24,none⟩) m.length cap'),(4,.bool false),(12,.int .i64 ((l.length:Nat):Int)),(13,.int .i64 (((k+1):Nat):Int))]).noviews⟩,by show _-_<_-_; omega⟩
  ·refine wp_exit<|κ6 _ _<|Sx.seqP fun _ κ33=>Sx.run S 1 [] [(4,.bool true)] fun ac S=>Sx.done<|κ33 _ _<|Vp.rt ?_
   refine Sx.ret1 S Tryz.results139 ?_
   exact⟨ret_bool (rows_eq (by have:=of_decide_eq_false hc10; omega) (of_len hc4) hR),S.E⟩
end Go.Proofs.YtfmkkemfhjkajaaGreatDoor
namespace Go.Proofs.YtfmkkemfhjkajaaGreatDoor
open Go.RowKit
variable{α:Type}
set_option linter.unusedVariables false
theorem pix_valid(p:PixD):(((min (p.r.toNat:Int) (p.a.toNat:Int))==(p.r.toNat:Int))&&(((min (p.g.toNat:Int) (p.a.toNat:Int))==(p.g.toNat:Int))&&(((min (p.b.toNat:Int) (p.a.toNat:Int))==(p.b.toNat:Int))&&((min (p.a.toNat:Int) (p.a.toNat:Int))==(p.a.toNat:Int)))))=p.valid:=by
 have h:∀x y:UInt8,((min (x.toNat:Int) (y.toNat:Int))==(x.toNat:Int))=decide (x≤y):=by
  intro x y; rw[Bool.eq_iff_iff]; simp only[beq_iff_eq,decide_eq_true_eq,UInt8.le_iff_toNat_le]; omega
 rw[h,h,h,h]; unfold PixD.valid; simp
theorem all_of_take{l:List α}{k:Nat}{p:α→Bool}(hk:l.length≤k)(h:(l.take k).all p=true):l.all p=true:=by rwa [List.take_of_length_le hk]at h
theorem not_all{l:List α}{k:Nat}{p:α→Bool}(hk:k<l.length)(h:p l[k]=false):l.all p=false:=by
 rw[List.all_eq_false]; exact⟨l[k],List.getElem_mem hk,by simp[h]⟩
theorem all_take_succ{l:List α}{k:Nat}{p:α→Bool}(hk:k<l.length)(hR:(l.take k).all p=true)(h:p l[k]=true):(l.take (k+1)).all p=true:=by
 rw[List.take_succ_eq_append_getElem hk,List.all_append,hR]; simp[h]
theorem side_wrap{a b:Int}(ha:side a=true)(hb:side b=true):IntKind.i64.wrap (a*b)=a*b:=by
 simp only[side,Bool.and_eq_true,decide_eq_true_eq]at ha hb
 have h1:a*b≤4096*4096:=Int.le_trans (Int.mul_le_mul_of_nonneg_right ha.2 (by omega)) (Int.mul_le_mul_of_nonneg_left hb.2 (by omega))
 have h0:0≤a*b:=Int.mul_nonneg (by omega) (by omega)
 rw[IntKind.wrap_i64]; omega
theorem img_wrap{m:ImgD}:((((!(side m.w))||(!(side m.h)))||(decide (65536<IntKind.i64.wrap (m.w*m.h))))||(((m.l.length:Nat):Int) != IntKind.i64.wrap (m.w*m.h)))=((((!(side m.w))||(!(side m.h)))||(decide (65536<(m.w*m.h))))||(((m.l.length:Nat):Int) != (m.w*m.h))):=by
 cases ha:side m.w<;>cases hb:side m.h<;>simp only[Bool.not_false,Bool.not_true,Bool.true_or,Bool.false_or,Bool.or_true]
 rw[side_wrap ha hb]
theorem img_no{m:ImgD}(h:((((!(side m.w))||(!(side m.h)))||(decide (65536<(m.w*m.h))))||(((m.l.length:Nat):Int) != (m.w*m.h)))=true):false=m.valid:=by
 unfold ImgD.valid ImgD.size
 revert h
 cases side m.w<;>cases side m.h<;>simp
 intro h h1 h2; omega
theorem img_yes{m:ImgD}(h:((((!(side m.w))||(!(side m.h)))||(decide (65536<(m.w*m.h))))||(((m.l.length:Nat):Int) != (m.w*m.h)))=false):(!(!(m.l.all PixD.valid)))=m.valid:=by
 unfold ImgD.valid ImgD.size
 revert h
 cases side m.w<;>cases side m.h<;>simp
 intro h h1; rw[h1]; simp[h]
theorem img_eq{m n:ImgD}:((m.w==n.w)&&(m.h==n.h)&&decide (m.l=n.l))=m.eq n:=by
 unfold ImgD.eq
 rw[Bool.and_assoc]
 by_cases h:m.l=n.l<;>simp[h]
theorem stops_len{l:List StopD}(h:((decide (((l.length:Nat):Int)<1))||(decide (16<((l.length:Nat):Int))))=true):false=stopsOk l:=by
 unfold stopsOk
 simp only[Bool.or_eq_true,decide_eq_true_eq]at h
 rcases h with h | h
 ·rw[decide_eq_false (by omega)]; rfl
 ·rw[decide_eq_false (p:=l.length≤16) (by omega)]; simp
theorem stops_ok{l:List StopD}(h:((decide (((l.length:Nat):Int)<1))||(decide (16<((l.length:Nat):Int))))=false):stopsOk l=stopsFrom 0 l:=by
 unfold stopsOk
 simp only[Bool.or_eq_false_iff,decide_eq_false_iff_not]at h
 rw[decide_eq_true (p:=1≤l.length) (by omega),decide_eq_true (p:=l.length≤16) (by omega)]; rfl
theorem stops_end{l:List StopD}{k:Nat}{last:Int}(h:((decide (((l.length:Nat):Int)<1))||(decide (16<((l.length:Nat):Int))))=false)(hk:l.length≤k)(hR:stopsFrom 0 l=stopsFrom last (l.drop k)):true=stopsOk l:=by
 rw[stops_ok h,hR,List.drop_eq_nil_of_le hk]; rfl
theorem stops_bad{l:List StopD}{k:Nat}{last:Int}(h:((decide (((l.length:Nat):Int)<1))||(decide (16<((l.length:Nat):Int))))=false)(hk:k<l.length)(hR:stopsFrom 0 l=stopsFrom last (l.drop k))(hb:((decide (l[k].o<last))||(decide (65536<l[k].o)))=true):false=stopsOk l:=by
 rw[stops_ok h,hR,List.drop_eq_getElem_cons hk,stopsFrom]
 simp only[Bool.or_eq_true,decide_eq_true_eq]at hb
 rcases hb with hb | hb
 ·rw[decide_eq_false (by omega)]; rfl
 ·rw[decide_eq_false (p:=l[k].o≤65536) (by omega)]; simp
theorem stops_step{l:List StopD}{k:Nat}{last:Int}(hk:k<l.length)(hR:stopsFrom 0 l=stopsFrom last (l.drop k))(hb:((decide (l[k].o<last))||(decide (65536<l[k].o)))=false):stopsFrom 0 l=stopsFrom l[k].o (l.drop (k+1)):=by
 rw[hR,List.drop_eq_getElem_cons hk,stopsFrom]
 simp only[Bool.or_eq_false_iff,decide_eq_false_iff_not]at hb
 rw[decide_eq_true (p:=last≤l[k].o) (by omega),decide_eq_true (p:=l[k].o≤65536) (by omega)]; rfl
theorem clamp1_any{w:World}{b:Nat}(p:PixD)(x:Int)(hx:Bx w b #[.int .u8 (p.r.toNat:Int),.int .u8 (p.g.toNat:Int),.int .u8 (p.b.toNat:Int),.int .u8 (p.a.toNat:Int)]) :
  Calls Tryz.prog 231 #[.int .u8 x,.pointer (some ⟨b,0,none⟩)] w fun e w'=>e = .returned (.int .u8 (min x (p.a.toNat:Int)))∧w=w':=by
 skip
 refine Sx.enter Tryz.func231 Tryz.ntmps231 (fun ac S=>?_)
 have S:=S.view0 hx.1 (hx.range 0 4 rfl)
 refine Sx.seqP fun _ κ1=>Sx.run S 1 [] [(3,.int .u8 0)] fun ac S=>Sx.done<|κ1 _ _<|Sx.seqP fun _ κ2=>Sx.run S 5 [.mem 0 3,.re 7 (.int .u8 (if (p.a.toNat:Int)<x then (p.a.toNat:Int)else x)) (.int .u8 (min x (p.a.toNat:Int)))] [(3,.int .u8 (min x (p.a.toNat:Int)))] (hk:=⟨Sx.min_re,trivial⟩) fun ac S=>Sx.done<|κ2 _ _<|Vp.rt ?_
 refine Sx.ret1 S Tryz.results231 ?_
 exact⟨rfl,rfl⟩
theorem each_any{w:World}{b:Nat}(p:PixD)(hx:Bx w b #[.int .u8 (p.r.toNat:Int),.int .u8 (p.g.toNat:Int),.int .u8 (p.b.toNat:Int),.int .u8 (p.a.toNat:Int)]) :
  Calls Tryz.prog 230 #[.agg #[.int .u8 (p.r.toNat:Int),.int .u8 (p.g.toNat:Int),.int .u8 (p.b.toNat:Int),.int .u8 (p.a.toNat:Int)],.func (.func 231) #[] #[.pointer (some ⟨b,0,none⟩)]] w fun e w'=>e = .returned (.agg #[.int .u8 (min (p.r.toNat:Int) (p.a.toNat:Int)),.int .u8 (min (p.g.toNat:Int) (p.a.toNat:Int)),.int .u8 (min (p.b.toNat:Int) (p.a.toNat:Int)),.int .u8 (min (p.a.toNat:Int) (p.a.toNat:Int))])∧Ext w w':=by
 skip
 refine Sx.enter Tryz.func230 Tryz.ntmps230 (fun ac S=>?_)
 have S:=S.view0 hx.1 (hx.range 0 4 rfl)
 refine Sx.seqP fun _ κ1=>Sx.newp S 2 p.cells fun ac u b2 E3 hb4 S=>Sx.newp S 4 [.int .u8 0,.int .u8 0,.int .u8 0,.int .u8 0] fun ac u b5 E6 hb7 S=>Sx.done<|κ1 _ _<|wp_seq_k fun _ κ8=>Sx.draw S 17 [.mem 1 0,.mem 1 1,.mem 1 2,.mem 1 3] [(_,_,true,.int .u8 (min (p.r.toNat:Int) (p.a.toNat:Int))),(_,_,true,.int .u8 (min (p.g.toNat:Int) (p.a.toNat:Int))),(_,_,true,.int .u8 (min (p.b.toNat:Int) (p.a.toNat:Int))),(_,_,true,.int .u8 (min (p.a.toNat:Int) (p.a.toNat:Int)))] [(21,.agg #[.int .u8 (min (p.r.toNat:Int) (p.a.toNat:Int)),.int .u8 (min (p.g.toNat:Int) (p.a.toNat:Int)),.int .u8 (min (p.b.toNat:Int) (p.a.toNat:Int)),.int .u8 (min (p.a.toNat:Int) (p.a.toNat:Int))])] ⟨fun u hC g=>Sx.same (clamp1_any p (p.r.toNat:Int) (hx.ext (Ext.trans' S.E hC))),fun u hC g=>Sx.same (clamp1_any p (p.g.toNat:Int) (hx.ext (Ext.trans' S.E hC))),fun u hC g=>Sx.same (clamp1_any p (p.b.toNat:Int) (hx.ext (Ext.trans' S.E hC))),fun u hC g=>Sx.same (clamp1_any p (p.a.toNat:Int) (hx.ext (Ext.trans' S.E hC))),trivial⟩ fun ac u E9 S=>Sx.store S 0 (off:=0) (cs:=[.int .u8 (min (p.r.toNat:Int) (p.a.toNat:Int)),.int .u8 (min (p.g.toNat:Int) (p.a.toNat:Int)),.int .u8 (min (p.b.toNat:Int) (p.a.toNat:Int)),.int .u8 (min (p.a.toNat:Int) (p.a.toNat:Int))]) rfl fun u C10 S=>Sx.done<|κ8 _ _<|Vp.rt ?_
 refine Sx.retc S 0 Tryz.results230 rfl (v := .agg #[.int .u8 (min (p.r.toNat:Int) (p.a.toNat:Int)),.int .u8 (min (p.g.toNat:Int) (p.a.toNat:Int)),.int .u8 (min (p.b.toNat:Int) (p.a.toNat:Int)),.int .u8 (min (p.a.toNat:Int) (p.a.toNat:Int))]) ?_
 exact⟨rfl,S.E⟩
theorem cclamp_any(p:PixD)(w:World) :
  Calls Tryz.prog 201 #[.agg #[.int .u8 (p.r.toNat:Int),.int .u8 (p.g.toNat:Int),.int .u8 (p.b.toNat:Int),.int .u8 (p.a.toNat:Int)]] w fun e w'=>e = .returned (.agg #[.int .u8 (min (p.r.toNat:Int) (p.a.toNat:Int)),.int .u8 (min (p.g.toNat:Int) (p.a.toNat:Int)),.int .u8 (min (p.b.toNat:Int) (p.a.toNat:Int)),.int .u8 (min (p.a.toNat:Int) (p.a.toNat:Int))])∧Ext w w':=by
 skip
 refine Sx.enter Tryz.func201 Tryz.ntmps201 fun ac S=>Sx.seqP fun _ κ1=>Sx.newp S 1 p.cells fun ac u b2 E3 hb4 S=>Sx.newp S 2 [.int .u8 0,.int .u8 0,.int .u8 0,.int .u8 0] fun ac u b5 E6 hb7 S=>Sx.done<|κ1 _ _<|Sx.seqP fun _ κ8=>Sx.run S 2 [.mem 1 0] [(3,.agg p.cells.toArray),(4,.func (.func 231) #[] #[.pointer (some ⟨b2,0,none⟩)])] fun ac S=>Sx.callv S 5 (each_any p (S.bx 1)) fun ac u E9 S=>Sx.store S 0 (off:=0) (cs:=[.int .u8 (min (p.r.toNat:Int) (p.a.toNat:Int)),.int .u8 (min (p.g.toNat:Int) (p.a.toNat:Int)),.int .u8 (min (p.b.toNat:Int) (p.a.toNat:Int)),.int .u8 (min (p.a.toNat:Int) (p.a.toNat:Int))]) rfl fun u C10 S=>Sx.done<|κ8 _ _<|Vp.rt ?_
 refine Sx.retc S 0 Tryz.results201 rfl (v := .agg #[.int .u8 (min (p.r.toNat:Int) (p.a.toNat:Int)),.int .u8 (min (p.g.toNat:Int) (p.a.toNat:Int)),.int .u8 (min (p.b.toNat:Int) (p.a.toNat:Int)),.int .u8 (min (p.a.toNat:Int) (p.a.toNat:Int))]) ?_
 exact⟨rfl,S.E⟩
theorem colValid_any(p:PixD)(w:World) :
  Calls Tryz.prog 160 #[.agg #[.int .u8 (p.r.toNat:Int),.int .u8 (p.g.toNat:Int),.int .u8 (p.b.toNat:Int),.int .u8 (p.a.toNat:Int)]] w fun e w'=>e = .returned (.bool p.valid)∧Ext w w':=by
 skip
 refine Sx.enter Tryz.func160 Tryz.ntmps160 fun ac S=>Sx.seqP fun _ κ1=>Sx.newp S 1 p.cells fun ac u b2 E3 hb4 S=>Sx.run S 1 [] [(2,.bool false)] fun ac S=>Sx.done<|κ1 _ _<|wp_seq_k fun _ κ5=>Sx.draw S 4 [.mem 0 0,.mem 0 0,.cmp .eql 122 (.tmp 4) (.tmp 5) (.agg #[.int .u8 (min (p.r.toNat:Int) (p.a.toNat:Int)),.int .u8 (min (p.g.toNat:Int) (p.a.toNat:Int)),.int .u8 (min (p.b.toNat:Int) (p.a.toNat:Int)),.int .u8 (min (p.a.toNat:Int) (p.a.toNat:Int))]) (.agg #[.int .u8 (p.r.toNat:Int),.int .u8 (p.g.toNat:Int),.int .u8 (p.b.toNat:Int),.int .u8 (p.a.toNat:Int)]) (.bool (((min (p.r.toNat:Int) (p.a.toNat:Int))==(p.r.toNat:Int))&&(((min (p.g.toNat:Int) (p.a.toNat:Int))==(p.g.toNat:Int))&&(((min (p.b.toNat:Int) (p.a.toNat:Int))==(p.b.toNat:Int))&&((min (p.a.toNat:Int) (p.a.toNat:Int))==(p.a.toNat:Int))))))] [(_,_,true,.agg #[.int .u8 (min (p.r.toNat:Int) (p.a.toNat:Int)),.int .u8 (min (p.g.toNat:Int) (p.a.toNat:Int)),.int .u8 (min (p.b.toNat:Int) (p.a.toNat:Int)),.int .u8 (min (p.a.toNat:Int) (p.a.toNat:Int))])] [(6,.bool (((min (p.r.toNat:Int) (p.a.toNat:Int))==(p.r.toNat:Int))&&(((min (p.g.toNat:Int) (p.a.toNat:Int))==(p.g.toNat:Int))&&(((min (p.b.toNat:Int) (p.a.toNat:Int))==(p.b.toNat:Int))&&((min (p.a.toNat:Int) (p.a.toNat:Int))==(p.a.toNat:Int))))))] ⟨fun u hC g=>cclamp_any p _,trivial⟩ (hk:=⟨Sx.cmp_agg (fun _=>eqPix ..) (by kernel_rfl),trivial⟩) fun ac u E6 S=>Sx.run S 1 [] [(2,.bool (((min (p.r.toNat:Int) (p.a.toNat:Int))==(p.r.toNat:Int))&&(((min (p.g.toNat:Int) (p.a.toNat:Int))==(p.g.toNat:Int))&&(((min (p.b.toNat:Int) (p.a.toNat:Int))==(p.b.toNat:Int))&&((min (p.a.toNat:Int) (p.a.toNat:Int))==(p.a.toNat:Int))))))] fun ac S=>Sx.done<|κ5 _ _<|Vp.rt ?_
 refine Sx.ret1 S Tryz.results160 ?_
 exact⟨ret_bool (pix_valid p),S.E⟩
theorem pixBad_any(p:PixD)(w:World) :
  Calls Tryz.prog 159 #[.agg #[.int .u8 (p.r.toNat:Int),.int .u8 (p.g.toNat:Int),.int .u8 (p.b.toNat:Int),.int .u8 (p.a.toNat:Int)]] w fun e w'=>e = .returned (.bool (!p.valid))∧Ext w w':=by
 skip
 refine Sx.enter Tryz.func159 Tryz.ntmps159 fun ac S=>Sx.seqP fun _ κ1=>Sx.newp S 1 p.cells fun ac u b2 E3 hb4 S=>Sx.run S 1 [] [(2,.bool false)] fun ac S=>Sx.done<|κ1 _ _<|Sx.seqP fun _ κ5=>Sx.run S 1 [.mem 0 0] [(3,.agg p.cells.toArray)] fun ac S=>Sx.callv S 4 (colValid_any p _) fun ac u E6 S=>Sx.run S 2 [] [(2,.bool (!p.valid))] fun ac S=>Sx.done<|κ5 _ _<|Vp.rt ?_
 refine Sx.ret1 S Tryz.results159 ?_
 exact⟨rfl,S.E⟩
theorem pixIndex_any{w:World}{v:Value}{l:List PixD}(h:IsRowN 4 PixD.cells w v l) :
  Calls Tryz.prog 200 #[v,.func (.func 159) #[] #[]] w fun e w'=>∃z,e = .returned (.int .i64 z)∧decide (0≤z) = !(l.all PixD.valid)∧Ext w w':=by
 obtain⟨a,cap,rfl⟩:=h.shape
 have hmax:l.length≤9223372036854775807:=h.len
 refine Sx.enter Tryz.func200 Tryz.ntmps200 fun ac S=>Sx.seqP fun _ κ1=>Sx.run S 1 [] [(4,.int .i64 0)] fun ac S=>Sx.done<|κ1 _ _<|wp_seq_k fun _ κ2=>Sx.seqP fun _ κ3=>Sx.run S 3 [] [(7,.int .i64 ((l.length:Nat):Int)),(8,.int .i64 0)] fun ac S=>Sx.done<|κ3 _ _<|wp_block ?_
 refine Vp.loop (ι:=Nat) (fun p a' w'=>p≤l.length∧((l.take p).all PixD.valid=true)∧Sx.St w a' w' 19 [(0,.slice a l.length cap),(1,.func (.func 159) #[] #[]),(4,.int .i64 0),(7,.int .i64 ((l.length:Nat):Int)),(8,.int .i64 ((p:Nat):Int))] [] []) (fun p=>l.length-p) (0) ⟨Nat.zero_le _,rfl,(S.sub [(0,.slice a l.length cap),(1,.func (.func 159) #[] #[]),(4,.int .i64 0),(7,.int .i64 ((l.length:Nat):Int)),(8,.int .i64 ((0:Nat):Int))]).noviews⟩ ?_
 rintro k ac u hI
 try dsimp only at hI
 obtain⟨hk,hR,S⟩:=hI
 refine Sx.seqP fun _ κ4=>Sx.run S 1 [] [(9,.bool (decide (((k:Nat):Int)<((l.length:Nat):Int))))] fun ac S=>Sx.done<|κ4 _ _<|wp_seq_k (fun _ κ5=>?_)
 refine Sx.cond S (fun hc6=>?_) (fun hc6=>?_)
 ·refine wp_skip<|κ5 _ _<|wp_seq_k fun _ κ7=>wp_block<|Sx.seqP fun _ κ8=>Sx.run S 2 [] [(5,.int .i64 ((k:Nat):Int))] fun ac S=>Sx.done<|κ8 _ _<|Sx.seqP (fun _ κ9=>?_)
  have lt15:k<l.length:=by have:=of_decide_eq_true hc6; omega
  obtain⟨b10,o11,c12,hv,hb17,hr13⟩:=Vp.rowN_range2 h (fun _=>rfl) (k) lt15
  simp only[Value.slice.injEq,true_and]at hv
  obtain⟨rfl,rfl⟩:=hv
  obtain⟨x16,hx14⟩:∃z,l[k]=z:=⟨_,rfl⟩
  rw[hx14]at hr13
  have S:=S.view0 hb17 hr13
  refine Sx.run S 5 [.idx k l.length,.mem 0 0] [(11,.func (.func 159) #[] #[]),(15,.agg x16.cells.toArray)] (hk:=⟨lt15,trivial⟩) fun ac S=>Sx.callv S 16 (pixBad_any x16 _) fun ac u E18 S=>Sx.done (κ9 _ _ ?_)
  refine Sx.cond S (fun hc19=>?_) (fun hc19=>?_)
  ·refine Sx.seqP fun _ κ20=>Sx.run S 2 [] [(4,.int .i64 ((k:Nat):Int))] fun ac S=>Sx.done<|κ20 _ _<|Vp.rt ?_
   refine Sx.ret1 S Tryz.results200 ?_
   exact⟨_,rfl,by rw[not_all lt15 (by rw[hx14]; simpa using hc19)]; simp,S.E⟩
  ·refine wp_skip<|κ7 _ _<|Vp.region<|Sx.run S 2 [.re 18 (.int .i64 (IntKind.i64.wrap (((k:Nat):Int)+1))) (.int .i64 (((k+1):Nat):Int))] [(8,.int .i64 (((k+1):Nat):Int))] (hk:=⟨Sx.wrap_succ (by omega),trivial⟩) fun ac S=>Sx.done ?_
   show ∃i',_∧_
   exact⟨(k+1),⟨by omega,(all_take_succ lt15 hR (by rw[hx14]; simpa using hc19)),(S.sub [(0,.slice (some ⟨b10,o11,none⟩) l.length cap),(1,.func (.func 159) #[] #[]),(4,.int .i64 0),(7,.int .i64 ((l.length:Nat):Int)),(8,.int .i64 (((k+1):Nat):Int))]).noviews⟩,by show _-_<_-_; omega⟩
 ·refine wp_exit<|κ2 _ _<|Sx.seqP fun _ κ21=>Sx.run S 1 [] [(4,.int .i64 (-1))] fun ac S=>Sx.done<|κ21 _ _<|Vp.rt ?_
  refine Sx.ret1 S Tryz.results200 ?_
  exact⟨_,rfl,by rw[all_of_take (by have:=of_decide_eq_false hc6; omega) hR]; rfl,S.E⟩
theorem pixSome_any{w:World}{v:Value}{l:List PixD}(h:IsRowN 4 PixD.cells w v l) :
  Calls Tryz.prog 158 #[v,.func (.func 159) #[] #[]] w fun e w'=>e = .returned (.bool (!(l.all PixD.valid)))∧Ext w w':=by
 skip
 refine Sx.enter Tryz.func158 Tryz.ntmps158 fun ac S=>Sx.seqP fun _ κ1=>Sx.run S 1 [] [(4,.bool false)] fun ac S=>Sx.done<|κ1 _ _<|Sx.seqP fun _ κ2=>Sx.run S 2 [] [(5,v),(6,.func (.func 159) #[] #[])] fun ac S=>Sx.callG S (some 7) (pixIndex_any (h.below S.E)) ?_
 rintro e u ⟨z,rfl,hz,E3⟩
 refine⟨_,rfl,E3,fun ac S=>?_⟩
 refine Sx.run S 2 [] [(4,.bool (decide (0≤z)))] fun ac S=>Sx.done<|κ2 _ _<|Vp.rt ?_
 refine Sx.ret1 S Tryz.results158 ?_
 exact⟨ret_bool hz,S.E⟩
theorem side_any(n:Int)(w:World) :
  Calls Tryz.prog 157 #[.int .i64 n] w fun e w'=>e = .returned (.bool (side n))∧w=w':=by
 skip
 refine Sx.enter Tryz.func157 Tryz.ntmps157 fun ac S=>Sx.seqP fun _ κ1=>Sx.run S 1 [] [(2,.bool false)] fun ac S=>Sx.done<|κ1 _ _<|Sx.seqP fun _ κ2=>Sx.run S 7 [] [(2,.bool ((decide (1≤n))&&(decide (n≤4096))))] fun ac S=>Sx.done<|κ2 _ _<|Vp.rt ?_
 refine Sx.ret1 S Tryz.results157 ?_
 exact⟨rfl,rfl⟩
theorem imgValid_any{w:World}{m:ImgD}(h:m.ok w) :
  Calls Tryz.prog 121 #[m.v] w fun e w'=>e = .returned (.bool m.valid)∧Ext w w':=by
 obtain⟨a,cap,hs⟩:=h.2.2.shape
 unfold ImgD.v
 have hq:=h.2.2
 rw[hs]
 rw[hs]at hq
 refine Sx.enter Tryz.func121 Tryz.ntmps121 fun ac S=>Sx.seqP fun _ κ1=>Sx.newp S 1 [.int .i64 m.w,.int .i64 m.h,.slice a m.l.length cap] fun ac u b2 E3 hb4 S=>Sx.run S 1 [] [(2,.bool false)] fun ac S=>Sx.done<|κ1 _ _<|Sx.seqP fun _ κ5=>Sx.run S 1 [] [(3,.func (.func 157) #[] #[])] fun ac S=>Sx.done<|κ5 _ _<|wp_seq_k fun _ κ6=>Sx.seqP fun _ κ7=>Sx.run S 3 [.mem 0 0] [(4,.func (.func 157) #[] #[]),(6,.int .i64 m.w)] fun ac S=>Sx.calls S 7 (side_any m.w _) fun ac S=>Sx.runC S 27 [.mem 0 1,.mem 0 0,.mem 0 1,.mem 0 2,.mem 0 0,.mem 0 1] [(_,_,(!(!(side m.w))),.bool (side m.h))] [(34,.bool ((((!(side m.w))||(!(side m.h)))||(decide (65536<(IntKind.i64.wrap (m.w*m.h)))))||((((m.l.length:Nat):Int)) != (IntKind.i64.wrap (m.w*m.h)))))] ⟨fun u hC g=>Sx.same (side_any m.h _),trivial⟩ fun ac u E8 S=>Sx.done (κ7 _ _ ?_)
 refine Sx.cond S (fun hc9=>?_) (fun hc9=>?_)
 ·refine Sx.seqP fun _ κ10=>Sx.run S 1 [] [(2,.bool false)] fun ac S=>Sx.done<|κ10 _ _<|Vp.rt ?_
  refine Sx.ret1 S Tryz.results121 ?_
  exact⟨ret_bool (img_no (img_wrap▸hc9)),S.E⟩
 ·refine wp_skip<|κ6 _ _<|Sx.seqP fun _ κ11=>Sx.run S 2 [.mem 0 2] [(36,.slice a m.l.length cap)] fun ac S=>Sx.callv S 37 (pixSome_any (hq.below S.E)) fun ac u E12 S=>Sx.run S 2 [] [(2,.bool (!(!(m.l.all PixD.valid))))] fun ac S=>Sx.done<|κ11 _ _<|Vp.rt ?_
  refine Sx.ret1 S Tryz.results121 ?_
  exact⟨ret_bool (img_yes (img_wrap▸hc9)),S.E⟩
theorem imgEqual_any{w:World}{m n:ImgD}(h:m.ok w)(h':n.ok w) :
  Calls Tryz.prog 97 #[m.v,n.v] w fun e w'=>e = .returned (.bool (m.eq n))∧Ext w w':=by
 skip
 refine Sx.enter Tryz.func97 Tryz.ntmps97 fun ac S=>Sx.seqP fun _ κ1=>Sx.newp S 2 m.cells fun ac u b2 E3 hb4 S=>Sx.newp S 3 n.cells fun ac u b5 E6 hb7 S=>Sx.run S 1 [] [(4,.bool false)] fun ac S=>Sx.done<|κ1 _ _<|Sx.seqP fun _ κ8=>Sx.runC S 20 [.mem 1 0,.mem 0 0,.mem 1 1,.mem 0 1,.mem 1 2,.mem 0 2] [(_,_,(((m.w)==n.w)&&((m.h)==n.h)),.bool (decide (m.l=n.l)))] [(4,.bool ((((m.w)==n.w)&&((m.h)==n.h))&&(decide (m.l=n.l))))] ⟨fun u hC g=>slPix_any (h.2.2.below (Ext.trans' S.E hC)) (h'.2.2.below (Ext.trans' S.E hC)),trivial⟩ fun ac u E9 S=>Sx.done<|κ8 _ _<|Vp.rt ?_
 refine Sx.ret1 S Tryz.results97 ?_
 exact⟨ret_bool img_eq,S.E⟩
theorem gradValid_any{w:World}{v:Value}{l:List StopD}(h:IsRowN 5 StopD.cells w v l) :
  Calls Tryz.prog 251 #[v] w fun e w'=>e = .returned (.bool (stopsOk l))∧Ext w w':=by
 obtain⟨a,cap,rfl⟩:=h.shape
 have hmax:l.length≤9223372036854775807:=h.len
 refine Sx.enter Tryz.func251 Tryz.ntmps251 fun ac S=>Sx.seqP fun _ κ1=>Sx.run S 1 [] [(2,.bool false)] fun ac S=>Sx.done<|κ1 _ _<|wp_seq_k fun _ κ2=>Sx.seqP fun _ κ3=>Sx.run S 8 [] [(13,.bool ((decide (((l.length:Nat):Int)<1))||(decide (16<((l.length:Nat):Int)))))] fun ac S=>Sx.done (κ3 _ _ ?_)
 refine Sx.cond S (fun hc4=>?_) (fun hc4=>?_)
 ·refine Sx.seqP fun _ κ5=>Sx.run S 1 [] [(2,.bool false)] fun ac S=>Sx.done<|κ5 _ _<|Vp.rt ?_
  refine Sx.ret1 S Tryz.results251 ?_
  exact⟨ret_bool (stops_len hc4),S.E⟩
 ·refine wp_skip<|κ2 _ _<|Sx.seqP fun _ κ6=>Sx.run S 1 [] [(3,.int .i64 0)] fun ac S=>Sx.done<|κ6 _ _<|wp_seq_k fun _ κ7=>Sx.seqP fun _ κ8=>Sx.run S 3 [] [(14,.slice a l.length cap),(15,.int .i64 ((l.length:Nat):Int)),(16,.int .i64 0)] fun ac S=>Sx.done<|κ8 _ _<|wp_block ?_
  refine Vp.loop (ι:=Nat×Int) (fun p a' w'=>p.1≤l.length∧(stopsFrom 0 l=stopsFrom p.2 (l.drop p.1))∧Sx.St w a' w' 32 [(0,.slice a l.length cap),(2,.bool false),(3,.int .i64 p.2),(14,.slice a l.length cap),(15,.int .i64 ((l.length:Nat):Int)),(16,.int .i64 ((p.1:Nat):Int))] [] []) (fun p=>l.length-p.1) (0,0) ⟨Nat.zero_le _,rfl,(S.sub [(0,.slice a l.length cap),(2,.bool false),(3,.int .i64 0),(14,.slice a l.length cap),(15,.int .i64 ((l.length:Nat):Int)),(16,.int .i64 ((0:Nat):Int))]).noviews⟩ ?_
  rintro⟨k,last⟩ ac u hI
  try dsimp only at hI
  obtain⟨hk,hR,S⟩:=hI
  refine Sx.seqP fun _ κ9=>Sx.run S 1 [] [(17,.bool (decide (((k:Nat):Int)<((l.length:Nat):Int))))] fun ac S=>Sx.done<|κ9 _ _<|wp_seq_k (fun _ κ10=>?_)
  refine Sx.cond S (fun hc11=>?_) (fun hc11=>?_)
  ·refine wp_skip<|κ10 _ _<|wp_seq_k fun _ κ12=>wp_block<|Sx.seqP (fun _ κ13=>?_)
   have lt19:k<l.length:=by have:=of_decide_eq_true hc11; omega
   obtain⟨b14,o15,c16,hv,hb21,hr17⟩:=Vp.rowN_range2 h (fun _=>rfl) (k) lt19
   simp only[Value.slice.injEq,true_and]at hv
   obtain⟨rfl,rfl⟩:=hv
   obtain⟨x20,hx18⟩:∃z,l[k]=z:=⟨_,rfl⟩
   rw[hx18]at hr17
   have S:=S.view0 hb21 hr17
   refine Sx.run S 2 [.idx k l.length,.mem 0 0] [(19,.agg x20.cells.toArray)] (hk:=⟨lt19,trivial⟩) fun ac S=>Sx.newp S 5 [.int .i64 0,.int .u8 0,.int .u8 0,.int .u8 0,.int .u8 0] fun ac u b22 E23 hb24 S=>Sx.store S 0 (off:=0) (cs:=x20.cells) rfl fun u C25 S=>Sx.done<|κ13 _ _<|wp_seq_k fun _ κ26=>Sx.seqP fun _ κ27=>Sx.run S 9 [.mem 0 0,.mem 0 0] [(28,.bool ((decide (x20.o<last))||(decide (65536<x20.o))))] fun ac S=>Sx.done (κ27 _ _ ?_)
   refine Sx.cond S (fun hc28=>?_) (fun hc28=>?_)
   ·refine Sx.seqP fun _ κ29=>Sx.run S 1 [] [(2,.bool false)] fun ac S=>Sx.done<|κ29 _ _<|Vp.rt ?_
    refine Sx.ret1 S Tryz.results251 ?_
    exact⟨ret_bool (stops_bad hc4 lt19 hR (by rw[hx18]; exact hc28)),S.E⟩
   ·refine wp_skip<|κ26 _ _<|Vp.region<|Sx.run S 3 [.mem 0 0] [(3,.int .i64 x20.o)] fun ac S=>Sx.done<|κ12 _ _<|Vp.region<|Sx.run S 2 [.re 31 (.int .i64 (IntKind.i64.wrap (((k:Nat):Int)+1))) (.int .i64 (((k+1):Nat):Int))] [(16,.int .i64 (((k+1):Nat):Int))] (hk:=⟨Sx.wrap_succ (by omega),trivial⟩) fun ac S=>Sx.done ?_
    show ∃i',_∧_
    exact⟨((k+1),x20.o),⟨by omega,(by rw[←hx18]; exact stops_step lt19 hR (by rw[hx18]; exact hc28)),(S.sub [(0,.slice (some ⟨b14,o15,none⟩) l.length cap),(2,.bool false),(3,.int .i64 x20.o),(14,.slice (some ⟨b14,o15,none⟩) l.length cap),(15,.int .i64 ((l.length:Nat):Int)),(16,.int .i64 (((k+1):Nat):Int))]).noviews.dropB 1⟩,by show _-_<_-_; omega⟩
  ·refine wp_exit<|κ7 _ _<|Sx.seqP fun _ κ30=>Sx.run S 1 [] [(2,.bool true)] fun ac S=>Sx.done<|κ30 _ _<|Vp.rt ?_
   refine Sx.ret1 S Tryz.results251 ?_
   exact⟨ret_bool (stops_end hc4 (by have:=of_decide_eq_false hc11; omega) hR),S.E⟩
theorem mode_any(n:Int)(w:World) :
  Calls Tryz.prog 119 #[.int .i64 n] w fun e w'=>e = .returned (.bool (decide (1≤n)&&decide (n≤13)))∧w=w':=by
 skip
 refine Sx.enter Tryz.func119 Tryz.ntmps119 fun ac S=>Sx.seqP fun _ κ1=>Sx.run S 1 [] [(2,.bool false)] fun ac S=>Sx.done<|κ1 _ _<|Sx.seqP fun _ κ2=>Sx.run S 7 [] [(2,.bool ((decide (1≤n))&&(decide (n≤13))))] fun ac S=>Sx.done<|κ2 _ _<|Vp.rt ?_
 refine Sx.ret1 S Tryz.results119 ?_
 exact⟨rfl,rfl⟩
theorem spread_any(n:Int)(w:World) :
  Calls Tryz.prog 229 #[.int .i64 n] w fun e w'=>e = .returned (.bool (spreadOk n))∧w=w':=by
 skip
 refine Sx.enter Tryz.func229 Tryz.ntmps229 fun ac S=>Sx.seqP fun _ κ1=>Sx.run S 1 [] [(2,.bool false)] fun ac S=>Sx.done<|κ1 _ _<|Sx.seqP fun _ κ2=>Sx.run S 7 [] [(2,.bool ((decide (1≤n))&&(decide (n≤3))))] fun ac S=>Sx.done<|κ2 _ _<|Vp.rt ?_
 refine Sx.ret1 S Tryz.results229 ?_
 exact⟨rfl,rfl⟩
theorem wide_any(n:Int)(w:World) :
  Calls Tryz.prog 195 #[.int .i64 n] w fun e w'=>e = .returned (.bool (decide (1≤n)&&decide (n≤16384)))∧w=w':=by
 skip
 refine Sx.enter Tryz.func195 Tryz.ntmps195 fun ac S=>Sx.seqP fun _ κ1=>Sx.run S 1 [] [(2,.bool false)] fun ac S=>Sx.done<|κ1 _ _<|Sx.seqP fun _ κ2=>Sx.run S 7 [] [(2,.bool ((decide (1≤n))&&(decide (n≤16384))))] fun ac S=>Sx.done<|κ2 _ _<|Vp.rt ?_
 refine Sx.ret1 S Tryz.results195 ?_
 exact⟨rfl,rfl⟩
end Go.Proofs.YtfmkkemfhjkajaaGreatDoor
namespace Go.Proofs.YtfmkkemfhjkajaaGreatDoor
open Go.RowKit
variable{α:Type}
set_option linter.unusedVariables false
/-- What the dashes seen so far say: none where one is out of range. -/
def dashAny(l s:List Int):Option Bool:=if s.all (fun x=>decide (0≤x)&&decide (x≤1048576))then some ((((l.length:Nat):Int)==0)||s.any (fun x=>decide (0<x)))else none
def dashOk(l:List Int):Bool:=l.all (fun x=>decide (0≤x)&&decide (x≤1048576))&&(((((((l.length:Nat):Int)==0)||l.any (fun x=>decide (0<x)))&&((Int.tmod ((l.length:Nat):Int) 2)==0))&&(decide (((l.length:Nat):Int)≤16))))
theorem dash_zero(l:List Int):dashAny l (l.take 0)=some (((l.length:Nat):Int)==0):=by simp[dashAny]
theorem dash_step{l:List Int}{k:Nat}{any:Bool}(hk:k<l.length)(hR:dashAny l (l.take k)=some any)(hb:((decide (l[k]<0))||(decide (1048576<l[k])))=false):dashAny l (l.take (k+1))=some (any||(decide (0<l[k]))):=by
 unfold dashAny at hR ⊢
 rw[List.take_succ_eq_append_getElem hk,List.all_append,List.any_append]
 simp only[Bool.or_eq_false_iff,decide_eq_false_iff_not]at hb
 split at hR
 ·rename_i h
  obtain rfl:=Option.some.inj hR
  rw[h]
  simp[show 0≤l[k] by omega,show l[k]≤1048576 by omega,Bool.or_assoc]
 ·cases hR
theorem dash_bad{l:List Int}{k:Nat}{any:Bool}(hk:k<l.length)(hR:dashAny l (l.take k)=some any)(hb:((decide (l[k]<0))||(decide (1048576<l[k])))=true):false=dashOk l:=by
 simp only[Bool.or_eq_true,decide_eq_true_eq]at hb
 unfold dashOk
 rw[not_all hk (by simp; omega)]; rfl
theorem dash_end{l:List Int}{k:Nat}{any:Bool}(hk:l.length≤k)(hR:dashAny l (l.take k)=some any):((any&&((Int.tmod ((l.length:Nat):Int) 2)==0))&&(decide (((l.length:Nat):Int)≤16)))=dashOk l:=by
 unfold dashAny at hR
 rw[List.take_of_length_le hk]at hR
 split at hR
 ·rename_i h
  obtain rfl:=Option.some.inj hR
  unfold dashOk
  rw[h]; rfl
 ·cases hR
/-- The error of a check: nil where it holds. -/
def whenE(b:Bool)(n:Int):Value:=if b=true then .iface 111 (.agg #[.int .i64 n,.nilIface])else .nilIface
theorem whenE_neq{b:Bool}{n:Int}{x:Operand}:∀w,(do eqGuard .neq 108 x (.const .nilIface) (whenE b n) .nilIface; binOp .neq 108 (whenE b n) .nilIface:Sem Value).run Tryz.prog w = .ok (.bool (!(!b))) w:=fun w=>by
 cases b<;>simp[whenE,go_sem]
def firstE:List (Bool×Int)→Value
 | [] => .nilIface
 | p::l=>if p.1=true then .iface 111 (.agg #[.int .i64 0,.iface 111 (.agg #[.int .i64 p.2,.nilIface])])else firstE l
theorem dashes_any{w:World}{v:Value}{l:List Int}(h:IsRowOf i64v w v l) :
  Calls Tryz.prog 196 #[v] w fun e w'=>e = .returned (.bool (dashOk l))∧Ext w w':=by
 obtain⟨a,cap,rfl⟩:=(rowN_one h).shape
 have hmax:l.length≤9223372036854775807:=(rowN_one h).len
 refine Sx.enter Tryz.func196 Tryz.ntmps196 fun ac S=>Sx.seqP fun _ κ1=>Sx.run S 1 [] [(2,.bool false)] fun ac S=>Sx.done<|κ1 _ _<|Sx.seqP fun _ κ2=>Sx.run S 4 [] [(3,.bool ((((l.length:Nat):Int))==0))] fun ac S=>Sx.done<|κ2 _ _<|wp_seq_k fun _ κ3=>Sx.seqP fun _ κ4=>Sx.run S 3 [] [(9,.slice a l.length cap),(10,.int .i64 ((l.length:Nat):Int)),(11,.int .i64 0)] fun ac S=>Sx.done<|κ4 _ _<|wp_block ?_
 refine Vp.loop (ι:=Nat×Bool) (fun p a' w'=>p.1≤l.length∧(dashAny l (l.take p.1)=some p.2)∧Sx.St w a' w' 39 [(0,.slice a l.length cap),(2,.bool false),(3,.bool p.2),(9,.slice a l.length cap),(10,.int .i64 ((l.length:Nat):Int)),(11,.int .i64 ((p.1:Nat):Int))] [] []) (fun p=>l.length-p.1) (0,(((l.length:Nat):Int)==0)) ⟨Nat.zero_le _,dash_zero l,(S.sub [(0,.slice a l.length cap),(2,.bool false),(3,.bool (((l.length:Nat):Int)==0)),(9,.slice a l.length cap),(10,.int .i64 ((l.length:Nat):Int)),(11,.int .i64 ((0:Nat):Int))]).noviews⟩ ?_
 rintro⟨k,any⟩ ac u hI
 try dsimp only at hI
 obtain⟨hk,hR,S⟩:=hI
 refine Sx.seqP fun _ κ5=>Sx.run S 1 [] [(12,.bool (decide (((k:Nat):Int)<((l.length:Nat):Int))))] fun ac S=>Sx.done<|κ5 _ _<|wp_seq_k (fun _ κ6=>?_)
 refine Sx.cond S (fun hc7=>?_) (fun hc7=>?_)
 ·refine wp_skip<|κ6 _ _<|wp_seq_k fun _ κ8=>wp_block<|Sx.seqP (fun _ κ9=>?_)
  have lt15:k<l.length:=by have:=of_decide_eq_true hc7; omega
  obtain⟨b10,o11,c12,hv,hb17,hr13⟩:=Vp.rowN_range2 (rowN_one h) (fun _=>rfl) (k) lt15
  simp only[Value.slice.injEq,true_and]at hv
  obtain⟨rfl,rfl⟩:=hv
  obtain⟨x16,hx14⟩:∃z,l[k]=z:=⟨_,rfl⟩
  rw[hx14]at hr13
  have S:=S.view0 hb17 hr13
  refine Sx.run S 3 [.idx k l.length,.mem 0 0] [(5,.int .i64 x16)] (hk:=⟨lt15,trivial⟩) fun ac S=>Sx.done<|κ9 _ _<|wp_seq_k fun _ κ18=>Sx.seqP fun _ κ19=>Sx.run S 6 [] [(20,.bool ((decide (x16<0))||(decide (1048576<x16))))] fun ac S=>Sx.done (κ19 _ _ ?_)
  refine Sx.cond S (fun hc20=>?_) (fun hc20=>?_)
  ·refine Sx.seqP fun _ κ21=>Sx.run S 1 [] [(2,.bool false)] fun ac S=>Sx.done<|κ21 _ _<|Vp.rt ?_
   refine Sx.ret1 S Tryz.results196 ?_
   exact⟨ret_bool (dash_bad lt15 hR (by rw[hx14]; exact hc20)),S.E⟩
  ·refine wp_skip<|κ18 _ _<|Vp.region<|Sx.run S 6 [] [(3,.bool (any||(decide (0<x16))))] fun ac S=>Sx.done<|κ8 _ _<|Vp.region<|Sx.run S 2 [.re 26 (.int .i64 (IntKind.i64.wrap (((k:Nat):Int)+1))) (.int .i64 (((k+1):Nat):Int))] [(11,.int .i64 (((k+1):Nat):Int))] (hk:=⟨Sx.wrap_succ (by omega),trivial⟩) fun ac S=>Sx.done ?_
   show ∃i',_∧_
   exact⟨((k+1),any||(decide (0<x16))),⟨by omega,(by rw[←hx14]; exact dash_step lt15 hR (by rw[hx14]; exact hc20)),(S.sub [(0,.slice (some ⟨b10,o11,none⟩) l.length cap),(2,.bool false),(3,.bool (any||(decide (0<x16)))),(9,.slice (some ⟨b10,o11,none⟩) l.length cap),(10,.int .i64 ((l.length:Nat):Int)),(11,.int .i64 (((k+1):Nat):Int))]).noviews⟩,by show _-_<_-_; omega⟩
 ·refine wp_exit<|κ3 _ _<|Sx.seqP fun _ κ22=>Sx.run S 13 [] [(2,.bool ((any&&(((Int.tmod ((l.length:Nat):Int) 2))==0))&&(decide (((l.length:Nat):Int)≤16))))] fun ac S=>Sx.done<|κ22 _ _<|Vp.rt ?_
  refine Sx.ret1 S Tryz.results196 ?_
  exact⟨ret_bool (dash_end (by have:=of_decide_eq_false hc7; omega) hR),S.E⟩
def StyleD.valid(p:StyleD):Bool:=(((((((decide (1≤p.width)&&decide (p.width≤16384))&&((((p.join)==1)||((p.join)==2))||((p.join)==3)))&&((((p.cap)==3)||((p.cap)==4))||((p.cap)==5)))&&(decide (256≤p.miter)))&&(decide (p.miter≤65536)))&&(dashOk p.dash))&&(decide (0≤p.phase)))&&(decide (p.phase≤1048576))
def StyleD.eq(p q:StyleD):Bool:=((((((p.width)==q.width)&&((p.join)==q.join))&&((p.cap)==q.cap))&&((p.miter)==q.miter))&&((p.phase)==q.phase))&&(decide (p.dash=q.dash))
theorem style_any{w:World}{p:StyleD}(h:p.ok w) :
  Calls Tryz.prog 155 #[p.v] w fun e w'=>e = .returned (.bool p.valid)∧Ext w w':=by
 skip
 refine Sx.enter Tryz.func155 Tryz.ntmps155 fun ac S=>Sx.seqP fun _ κ1=>Sx.newp S 1 p.cells fun ac u b2 E3 hb4 S=>Sx.run S 1 [] [(2,.bool false)] fun ac S=>Sx.done<|κ1 _ _<|Sx.seqP fun _ κ5=>Sx.run S 14 [.mem 0 1,.mem 0 1,.mem 0 1] [(3,.bool ((((p.join)==1)||((p.join)==2))||((p.join)==3)))] fun ac S=>Sx.done<|κ5 _ _<|Sx.seqP fun _ κ6=>Sx.run S 14 [.mem 0 2,.mem 0 2,.mem 0 2] [(4,.bool ((((p.cap)==3)||((p.cap)==4))||((p.cap)==5)))] fun ac S=>Sx.done<|κ6 _ _<|Sx.seqP fun _ κ7=>Sx.run S 2 [.mem 0 0] [(32,.int .i64 p.width)] fun ac S=>Sx.calls S 33 (wide_any p.width _) fun ac S=>Sx.runC S 32 [.mem 0 3,.mem 0 3,.mem 0 4,.mem 0 5,.mem 0 5] [(_,_,(((((decide (1≤p.width)&&decide (p.width≤16384))&&((((p.join)==1)||((p.join)==2))||((p.join)==3)))&&((((p.cap)==3)||((p.cap)==4))||((p.cap)==5)))&&(decide (256≤p.miter)))&&(decide (p.miter≤65536))),.bool (dashOk p.dash))] [(2,.bool ((((((((decide (1≤p.width)&&decide (p.width≤16384))&&((((p.join)==1)||((p.join)==2))||((p.join)==3)))&&((((p.cap)==3)||((p.cap)==4))||((p.cap)==5)))&&(decide (256≤p.miter)))&&(decide (p.miter≤65536)))&&(dashOk p.dash))&&(decide (0≤p.phase)))&&(decide (p.phase≤1048576))))] ⟨fun u hC g=>dashes_any (h.2.2.2.2.1.below (Ext.trans' S.E hC)),trivial⟩ fun ac u E8 S=>Sx.done<|κ7 _ _<|Vp.rt ?_
 refine Sx.ret1 S Tryz.results155 ?_
 exact⟨rfl,S.E⟩
theorem samePen_any{w:World}{p q:StyleD}(h:p.ok w)(h':q.ok w) :
  Calls Tryz.prog 96 #[p.v,q.v] w fun e w'=>e = .returned (.bool (p.eq q))∧Ext w w':=by
 skip
 refine Sx.enter Tryz.func96 Tryz.ntmps96 fun ac S=>Sx.seqP fun _ κ1=>Sx.newp S 2 p.cells fun ac u b2 E3 hb4 S=>Sx.newp S 3 q.cells fun ac u b5 E6 hb7 S=>Sx.run S 1 [] [(4,.bool false)] fun ac S=>Sx.done<|κ1 _ _<|Sx.seqP fun _ κ8=>Sx.runC S 41 [.mem 1 0,.mem 0 0,.mem 1 1,.mem 0 1,.mem 1 2,.mem 0 2,.mem 1 3,.mem 0 3,.mem 1 5,.mem 0 5,.mem 1 4,.mem 0 4] [(_,_,((((((p.width)==q.width)&&((p.join)==q.join))&&((p.cap)==q.cap))&&((p.miter)==q.miter))&&((p.phase)==q.phase)),.bool (decide (p.dash=q.dash)))] [(4,.bool (((((((p.width)==q.width)&&((p.join)==q.join))&&((p.cap)==q.cap))&&((p.miter)==q.miter))&&((p.phase)==q.phase))&&(decide (p.dash=q.dash))))] ⟨fun u hC g=>slInt_any (rowN_one (h.2.2.2.2.1.below (Ext.trans' S.E hC))) (rowN_one (h'.2.2.2.2.1.below (Ext.trans' S.E hC))),trivial⟩ fun ac u E9 S=>Sx.done<|κ8 _ _<|Vp.rt ?_
 refine Sx.ret1 S Tryz.results96 ?_
 exact⟨rfl,S.E⟩
theorem rule_any(n:Int)(w:World) :
  Calls Tryz.prog 112 #[.int .i64 n] w fun e w'=>e = .returned (.bool ((n==1)||(n==2)))∧w=w':=by
 skip
 refine Sx.enter Tryz.func112 Tryz.ntmps112 fun ac S=>Sx.seqP fun _ κ1=>Sx.run S 1 [] [(2,.bool false)] fun ac S=>Sx.done<|κ1 _ _<|Sx.seqP fun _ κ2=>Sx.run S 7 [] [(2,.bool (((n)==1)||((n)==2)))] fun ac S=>Sx.done<|κ2 _ _<|Vp.rt ?_
 refine Sx.ret1 S Tryz.results112 ?_
 exact⟨rfl,rfl⟩
theorem when_any(b:Bool)(n:Int)(w:World) :
  Calls Tryz.prog 114 #[.bool b,.int .i64 n] w fun e w'=>e = .returned (whenE b n)∧w=w':=by
 skip
 refine Sx.enter Tryz.func114 Tryz.ntmps114 fun ac S=>Sx.seqP fun _ κ1=>Sx.run S 1 [] [(4,.nilIface)] fun ac S=>Sx.done<|κ1 _ _<|wp_seq_k fun _ κ2=>Sx.seqP fun _ κ3=>Sx.run S 2 [] [(6,.bool (!b))] fun ac S=>Sx.done (κ3 _ _ ?_)
 refine Sx.cond S (fun hc4=>?_) (fun hc4=>?_)
 ·refine Sx.seqP fun _ κ5=>Sx.run S 1 [] [(4,.nilIface)] fun ac S=>Sx.done<|κ5 _ _<|Vp.rt ?_
  refine Sx.ret1 S Tryz.results114 ?_
  obtain rfl:b=false:=by simpa using hc4
  exact⟨rfl,rfl⟩
 ·refine wp_skip<|κ2 _ _<|Sx.seqP fun _ κ6=>Sx.run S 4 [] [(4,.iface 111 (.agg #[.int .i64 n,.nilIface]))] fun ac S=>Sx.done<|κ6 _ _<|Vp.rt ?_
  refine Sx.ret1 S Tryz.results114 ?_
  obtain rfl:b=true:=by simpa using hc4
  exact⟨rfl,rfl⟩
theorem first_any{w:World}{v:Value}{l:List (Bool×Int)}(h:IsRowN 1 (fun p=>[whenE p.1 p.2]) w v l) :
  Calls Tryz.prog 113 #[v] w fun e w'=>e = .returned (firstE l)∧Ext w w':=by
 obtain⟨a,cap,rfl⟩:=h.shape
 have hmax:l.length≤9223372036854775807:=h.len
 refine Sx.enter Tryz.func113 Tryz.ntmps113 fun ac S=>Sx.seqP fun _ κ1=>Sx.run S 1 [] [(2,.nilIface)] fun ac S=>Sx.done<|κ1 _ _<|wp_seq_k fun _ κ2=>Sx.seqP fun _ κ3=>Sx.run S 3 [] [(5,.slice a l.length cap),(6,.int .i64 ((l.length:Nat):Int)),(7,.int .i64 0)] fun ac S=>Sx.done<|κ3 _ _<|wp_block ?_
 refine Vp.loop (ι:=Nat) (fun p a' w'=>p≤l.length∧(firstE l=firstE (l.drop p))∧Sx.St w a' w' 17 [(0,.slice a l.length cap),(2,.nilIface),(5,.slice a l.length cap),(6,.int .i64 ((l.length:Nat):Int)),(7,.int .i64 ((p:Nat):Int))] [] []) (fun p=>l.length-p) (0) ⟨Nat.zero_le _,rfl,(S.sub [(0,.slice a l.length cap),(2,.nilIface),(5,.slice a l.length cap),(6,.int .i64 ((l.length:Nat):Int)),(7,.int .i64 ((0:Nat):Int))]).noviews⟩ ?_
 rintro k ac u hI
 try dsimp only at hI
 obtain⟨hk,hR,S⟩:=hI
 refine Sx.seqP fun _ κ4=>Sx.run S 1 [] [(8,.bool (decide (((k:Nat):Int)<((l.length:Nat):Int))))] fun ac S=>Sx.done<|κ4 _ _<|wp_seq_k (fun _ κ5=>?_)
 refine Sx.cond S (fun hc6=>?_) (fun hc6=>?_)
 ·refine wp_skip<|κ5 _ _<|wp_seq_k fun _ κ7=>wp_block<|Sx.seqP (fun _ κ8=>?_)
  have lt14:k<l.length:=by have:=of_decide_eq_true hc6; omega
  obtain⟨b9,o10,c11,hv,hb16,hr12⟩:=Vp.rowN_range2 h (fun _=>rfl) (k) lt14
  simp only[Value.slice.injEq,true_and]at hv
  obtain⟨rfl,rfl⟩:=hv
  obtain⟨x15,hx13⟩:∃z,l[k]=z:=⟨_,rfl⟩
  rw[hx13]at hr12
  have S:=S.view0 hb16 hr12
  refine Sx.run S 3 [.idx k l.length,.mem 0 0] [(4,whenE x15.1 x15.2)] (hk:=⟨lt14,trivial⟩) fun ac S=>Sx.done<|κ8 _ _<|Sx.seqP fun _ κ17=>Sx.run S 2 [.cmp .neq 108 (.tmp 11) (.const .nilIface) (whenE x15.1 x15.2) .nilIface (.bool (!(!x15.1)))] [(12,.bool (!(!x15.1)))] (hk:=⟨whenE_neq,trivial⟩) fun ac S=>Sx.done (κ17 _ _ ?_)
  refine Sx.cond S (fun hc18=>?_) (fun hc18=>?_)
  ·have hb:x15.1=true:=by simpa using hc18
   rw[show whenE x15.1 x15.2 = .iface 111 (.agg #[.int .i64 x15.2,.nilIface])from if_pos hb]at S
   refine Sx.seqP fun _ κ19=>Sx.run S 4 [] [(2,.iface 111 (.agg #[.int .i64 0,.iface 111 (.agg #[.int .i64 x15.2,.nilIface])]))] fun ac S=>Sx.done<|κ19 _ _<|Vp.rt ?_
   refine Sx.ret1 S Tryz.results113 ?_
   exact⟨by rw[hR,List.drop_eq_getElem_cons lt14,hx13,firstE,if_pos hb],S.E⟩
  ·refine wp_skip<|κ7 _ _<|Vp.region<|Sx.run S 2 [.re 16 (.int .i64 (IntKind.i64.wrap (((k:Nat):Int)+1))) (.int .i64 (((k+1):Nat):Int))] [(7,.int .i64 (((k+1):Nat):Int))] (hk:=⟨Sx.wrap_succ (by omega),trivial⟩) fun ac S=>Sx.done ?_
   show ∃i',_∧_
   exact⟨(k+1),⟨by omega,(by rw[hR,List.drop_eq_getElem_cons lt14,hx13,firstE,if_neg (by simpa using hc18)]),(S.sub [(0,.slice (some ⟨b9,o10,none⟩) l.length cap),(2,.nilIface),(5,.slice (some ⟨b9,o10,none⟩) l.length cap),(6,.int .i64 ((l.length:Nat):Int)),(7,.int .i64 (((k+1):Nat):Int))]).noviews⟩,by show _-_<_-_; omega⟩
 ·refine wp_exit<|κ2 _ _<|Sx.seqP fun _ κ20=>Sx.run S 1 [] [(2,.nilIface)] fun ac S=>Sx.done<|κ20 _ _<|Vp.rt ?_
  refine Sx.ret1 S Tryz.results113 ?_
  exact⟨by rw[hR,List.drop_eq_nil_of_le (by have:=of_decide_eq_false hc6; omega)]; rfl,S.E⟩
end Go.Proofs.YtfmkkemfhjkajaaGreatDoor
