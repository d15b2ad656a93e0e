/- slices.Equal of the rows that nodes hold. -/
import Derived.Test.YtfmkkemfhjkajaaGreatDoorPath
set_option linter.unusedVariables false
set_option maxHeartbeats 1600000
set_option maxRecDepth 100000
namespace Go.Proofs.YtfmkkemfhjkajaaGreatDoor
open Go.RowKit
variable{α:Type}
theorem aB{a b:Bool}(h:a=b):Ending.returned (.bool a) = .returned (.bool b):=by rw[h]
theorem mJ [DecidableEq α]{l m:List α}(h:(((l.length:Nat):Int) != ((m.length:Nat):Int))=true):false=decide (l=m):=by
 have h1:l≠m:=fun e=>by subst e; simp at h
 simp[h1]
theorem jV{l m:List α}(h:(((l.length:Nat):Int) != ((m.length:Nat):Int))=false):l.length=m.length:=by simp at h; omega
theorem sH [DecidableEq α]{l m:List α}{k:Nat}(hk:l.length≤k)(h:l.length=m.length)(hR:l.take k=m.take k):true=decide (l=m):=by
 rw[List.take_of_length_le hk,List.take_of_length_le (by omega)]at hR; simp[hR]
theorem sG [DecidableEq α]{l m:List α}{k:Nat}(h1:k<l.length)(h2:k<m.length)(h:l[k]≠m[k]):false=decide (l=m):=by
 have h1:l≠m:=fun e=>by subst e; exact h rfl
 simp[h1]
theorem mM{l m:List α}{k:Nat}(h1:k<l.length)(h2:k<m.length)(hR:l.take k=m.take k)(h:l[k]=m[k]):l.take (k+1)=m.take (k+1):=by
 rw[List.take_succ_eq_append_getElem h1,List.take_succ_eq_append_getElem h2,hR,h]
theorem Yc{x y:dW}(h:(!((x.verb==y.verb)&&((x.a.x==y.a.x)&&((x.a.y==y.a.y)&&((x.b.x==y.b.x)&&((x.b.y==y.b.y)&&((x.c.x==y.c.x)&&(x.c.y==y.c.y))))))))=false):x=y:=by
 obtain⟨v,⟨a,b⟩,⟨c,d⟩,⟨e,f⟩⟩:=x
 obtain⟨v',⟨a',b'⟩,⟨c',d'⟩,⟨e',f'⟩⟩:=y
 simp at h ⊢; omega
theorem EL{a b:UInt8}(h:(a.toNat:Int)=(b.toNat:Int)):a=b:=UInt8.toNat_inj.1 (by omega)
theorem Qh{x y:dI}(h:(!(((x.r.toNat:Int)==y.r.toNat)&&(((x.g.toNat:Int)==y.g.toNat)&&(((x.b.toNat:Int)==y.b.toNat)&&((x.a.toNat:Int)==y.a.toNat)))))=false):x=y:=by
 obtain⟨a,b,c,d⟩:=x
 obtain⟨a',b',c',d'⟩:=y
 simp only[Bool.not_eq_false',Bool.and_eq_true,beq_iff_eq]at h
 rw[EL h.1,EL h.2.1,EL h.2.2.1,EL h.2.2.2]
theorem Td{x y:fK}(h:(!((x.o==y.o)&&(((x.c.r.toNat:Int)==y.c.r.toNat)&&(((x.c.g.toNat:Int)==y.c.g.toNat)&&(((x.c.b.toNat:Int)==y.c.b.toNat)&&((x.c.a.toNat:Int)==y.c.a.toNat))))))=false):x=y:=by
 obtain⟨o,c⟩:=x
 obtain⟨o',c'⟩:=y
 simp only[Bool.not_eq_false',Bool.and_eq_true,beq_iff_eq]at h
 have:c=c':=Qh (by simp only[Bool.not_eq_false',Bool.and_eq_true,beq_iff_eq]; exact h.2)
 rw[h.1,this]
theorem Yh{x y:Int}(h:(x != y)=false):x=y:=by simpa using h
theorem Vk{w:World}{v u:Value}{l m:List dW}(h:aT 7 dW.cells w v l)(h':aT 7 dW.cells w u m) :
  Calls Tryz.prog 137 #[v,u] w fun e w'=>e = .returned (.bool (decide (l=m)))∧Ext w w':=by
 obtain⟨a,cap,rfl⟩:=h.shape
 obtain⟨d,cap',rfl⟩:=h'.shape
 have hmax:l.length≤9223372036854775807:=h.len
 refine aiK Tryz.func137 Tryz.ntmps137 fun ac S=>aiG fun _ aU=>adr S 1 [] [(4,.bool false)] fun ac S=>aiF<|aU _ _<|wp_seq_k fun _ fE=>aiG fun _ gW=>adr S 5 [] [(10,.bool ((((l.length:Nat):Int)) != ((m.length:Nat):Int)))] fun ac S=>aiF (gW _ _ ?_)
 refine aiI S (fun hc4=>?_) (fun hc4=>?_)
 ·refine aiG fun _ bV=>adr S 1 [] [(4,.bool false)] fun ac S=>aiF<|bV _ _<|Vp.rt ?_
  refine aiH S Tryz.results137 ?_
  exact⟨aB (mJ hc4),S.E⟩
 ·refine wp_skip<|fE _ _<|wp_seq_k fun _ iK=>aiG fun _ kC=>adr S 3 [] [(12,.int .i64 ((l.length:Nat):Int)),(13,.int .i64 0)] fun ac S=>aiF<|kC _ _<|wp_block ?_
  refine Vp.loop (ι:=Nat) (fun p a' w'=>p≤l.length∧(l.take p=m.take p)∧Sx.St w a' w' 26 [(0,.slice a l.length cap),(1,.slice d m.length cap'),(4,.bool false),(12,.int .i64 ((l.length:Nat):Int)),(13,.int .i64 ((p:Nat):Int))] [] []) (fun p=>l.length-p) (0) ⟨Nat.zero_le _,rfl,(S.sub [(0,.slice a l.length cap),(1,.slice d m.length cap'),(4,.bool false),(12,.int .i64 ((l.length:Nat):Int)),(13,.int .i64 ((0:Nat):Int))]).aK⟩ ?_
  rintro k ac u hI
  try dsimp only at hI
  obtain⟨hk,hR,S⟩:=hI
  refine aiG fun _ dP=>adr S 1 [] [(14,.bool (decide (((k:Nat):Int)<((l.length:Nat):Int))))] fun ac S=>aiF<|dP _ _<|wp_seq_k (fun _ gB=>?_)
  refine aiI S (fun bY=>?_) (fun bY=>?_)
  ·refine wp_skip<|gB _ _<|wp_seq_k fun _ dB=>wp_block<|aiG fun _ dw=>adr S 2 [] [(5,.int .i64 ((k:Nat):Int))] fun ac S=>aiF<|dw _ _<|wp_seq_k (fun _ fZ=>?_)
   have vw:k<l.length:=by have:=of_decide_eq_true bY; omega
   obtain⟨b15,o16,c17,hv,Qr,EM⟩:=Vp.aF h (fun _=>rfl) (k) vw
   simp only[Value.slice.injEq,true_and]at hv
   obtain⟨rfl,rfl⟩:=hv
   obtain⟨x21,zu⟩:∃z,l[k]=z:=⟨_,rfl⟩
   rw[zu]at EM
   have S:=S.view0 Qr EM
   have rX:k<m.length:=by have:=jV hc4; have:=of_decide_eq_true bY; omega
   obtain⟨b23,o24,c25,hv,JZ,Ai⟩:=Vp.aF h' (fun _=>rfl) (k) rX
   simp only[Value.slice.injEq,true_and]at hv
   obtain⟨rfl,rfl⟩:=hv
   obtain⟨y29,hx27⟩:∃z,m[k]=z:=⟨_,rfl⟩
   rw[hx27]at Ai
   have S:=S.view0 JZ Ai
   refine aiO S 9 [.idx k l.length,.mem 1 0,.idx k m.length,.mem 0 0,.cmp .neq 62 (.tmp 19) (.tmp 23) (.agg #[.int .i64 x21.verb,.int .i64 x21.a.x,.int .i64 x21.a.y,.int .i64 x21.b.x,.int .i64 x21.b.y,.int .i64 x21.c.x,.int .i64 x21.c.y]) (.agg #[.int .i64 y29.verb,.int .i64 y29.a.x,.int .i64 y29.a.y,.int .i64 y29.b.x,.int .i64 y29.b.y,.int .i64 y29.c.x,.int .i64 y29.c.y]) (.bool (!((x21.verb==y29.verb)&&((x21.a.x==y29.a.x)&&((x21.a.y==y29.a.y)&&((x21.b.x==y29.b.x)&&((x21.b.y==y29.b.y)&&((x21.c.x==y29.c.x)&&(x21.c.y==y29.c.y)))))))))] [] [(24,.bool (!((x21.verb==y29.verb)&&((x21.a.x==y29.a.x)&&((x21.a.y==y29.a.y)&&((x21.b.x==y29.b.x)&&((x21.b.y==y29.b.y)&&((x21.c.x==y29.c.x)&&(x21.c.y==y29.c.y)))))))))] trivial (hk:=⟨vw,rX,aiX (fun _=>abP ..) (by kernel_rfl),trivial⟩) fun ac u Ei S=>aiF (fZ _ _ ?_)
   refine aiI S (fun hc31=>?_) (fun hc31=>?_)
   ·refine aiG fun _ kM=>adr S 1 [] [(4,.bool false)] fun ac S=>aiF<|kM _ _<|Vp.rt ?_
    refine aiH S Tryz.results137 ?_
    exact⟨aB (sG vw rX (fun e=>by have hq:=hc31; rw[zu,hx27]at e; subst e; simp at hq)),S.E⟩
   ·refine wp_skip<|dB _ _<|Vp.region<|adr S 2 [.re 25 (.int .i64 (IntKind.i64.wrap (((k:Nat):Int)+1))) (.int .i64 (((k+1):Nat):Int))] [(13,.int .i64 (((k+1):Nat):Int))] (hk:=⟨aiR (by omega),trivial⟩) fun ac S=>aiF ?_
    show ∃i',_∧_
    exact⟨(k+1),⟨by omega,(mM vw rX hR (by rw[zu,hx27]; exact Yc hc31)),(S.sub [(0,.slice (some ⟨b15,o16,none⟩) l.length cap),(1,.slice (some ⟨b23,o24,none⟩) m.length cap'),(4,.bool false),(12,.int .i64 ((l.length:Nat):Int)),(13,.int .i64 (((k+1):Nat):Int))]).aK⟩,by show _-_<_-_; omega⟩
  ·refine wp_exit<|iK _ _<|aiG fun _ lW=>adr S 1 [] [(4,.bool true)] fun ac S=>aiF<|lW _ _<|Vp.rt ?_
   refine aiH S Tryz.results137 ?_
   exact⟨aB (sH (by have:=of_decide_eq_false bY; omega) (jV hc4) hR),S.E⟩
theorem Qs{w:World}{v u:Value}{l m:List fK}(h:aT 5 fK.cells w v l)(h':aT 5 fK.cells w u m) :
  Calls Tryz.prog 138 #[v,u] w fun e w'=>e = .returned (.bool (decide (l=m)))∧Ext w w':=by
 obtain⟨a,cap,rfl⟩:=h.shape
 obtain⟨d,cap',rfl⟩:=h'.shape
 have hmax:l.length≤9223372036854775807:=h.len
 refine aiK Tryz.func138 Tryz.ntmps138 fun ac S=>aiG fun _ aU=>adr S 1 [] [(4,.bool false)] fun ac S=>aiF<|aU _ _<|wp_seq_k fun _ fE=>aiG fun _ gW=>adr S 5 [] [(10,.bool ((((l.length:Nat):Int)) != ((m.length:Nat):Int)))] fun ac S=>aiF (gW _ _ ?_)
 refine aiI S (fun hc4=>?_) (fun hc4=>?_)
 ·refine aiG fun _ bV=>adr S 1 [] [(4,.bool false)] fun ac S=>aiF<|bV _ _<|Vp.rt ?_
  refine aiH S Tryz.results138 ?_
  exact⟨aB (mJ hc4),S.E⟩
 ·refine wp_skip<|fE _ _<|wp_seq_k fun _ iK=>aiG fun _ kC=>adr S 3 [] [(12,.int .i64 ((l.length:Nat):Int)),(13,.int .i64 0)] fun ac S=>aiF<|kC _ _<|wp_block ?_
  refine Vp.loop (ι:=Nat) (fun p a' w'=>p≤l.length∧(l.take p=m.take p)∧Sx.St w a' w' 26 [(0,.slice a l.length cap),(1,.slice d m.length cap'),(4,.bool false),(12,.int .i64 ((l.length:Nat):Int)),(13,.int .i64 ((p:Nat):Int))] [] []) (fun p=>l.length-p) (0) ⟨Nat.zero_le _,rfl,(S.sub [(0,.slice a l.length cap),(1,.slice d m.length cap'),(4,.bool false),(12,.int .i64 ((l.length:Nat):Int)),(13,.int .i64 ((0:Nat):Int))]).aK⟩ ?_
  rintro k ac u hI
  try dsimp only at hI
  obtain⟨hk,hR,S⟩:=hI
  refine aiG fun _ dP=>adr S 1 [] [(14,.bool (decide (((k:Nat):Int)<((l.length:Nat):Int))))] fun ac S=>aiF<|dP _ _<|wp_seq_k (fun _ gB=>?_)
  refine aiI S (fun bY=>?_) (fun bY=>?_)
  ·refine wp_skip<|gB _ _<|wp_seq_k fun _ dB=>wp_block<|aiG fun _ dw=>adr S 2 [] [(5,.int .i64 ((k:Nat):Int))] fun ac S=>aiF<|dw _ _<|wp_seq_k (fun _ fZ=>?_)
   have vw:k<l.length:=by have:=of_decide_eq_true bY; omega
   obtain⟨b15,o16,c17,hv,Qr,EM⟩:=Vp.aF h (fun _=>rfl) (k) vw
   simp only[Value.slice.injEq,true_and]at hv
   obtain⟨rfl,rfl⟩:=hv
   obtain⟨x21,zu⟩:∃z,l[k]=z:=⟨_,rfl⟩
   rw[zu]at EM
   have S:=S.view0 Qr EM
   have rX:k<m.length:=by have:=jV hc4; have:=of_decide_eq_true bY; omega
   obtain⟨b23,o24,c25,hv,JZ,Ai⟩:=Vp.aF h' (fun _=>rfl) (k) rX
   simp only[Value.slice.injEq,true_and]at hv
   obtain⟨rfl,rfl⟩:=hv
   obtain⟨y29,hx27⟩:∃z,m[k]=z:=⟨_,rfl⟩
   rw[hx27]at Ai
   have S:=S.view0 JZ Ai
   refine aiO S 9 [.idx k l.length,.mem 1 0,.idx k m.length,.mem 0 0,.cmp .neq 155 (.tmp 19) (.tmp 23) (.agg #[.int .i64 x21.o,.int .u8 (x21.c.r.toNat:Int),.int .u8 (x21.c.g.toNat:Int),.int .u8 (x21.c.b.toNat:Int),.int .u8 (x21.c.a.toNat:Int)]) (.agg #[.int .i64 y29.o,.int .u8 (y29.c.r.toNat:Int),.int .u8 (y29.c.g.toNat:Int),.int .u8 (y29.c.b.toNat:Int),.int .u8 (y29.c.a.toNat:Int)]) (.bool (!((x21.o==y29.o)&&(((x21.c.r.toNat:Int)==(y29.c.r.toNat:Int))&&(((x21.c.g.toNat:Int)==(y29.c.g.toNat:Int))&&(((x21.c.b.toNat:Int)==(y29.c.b.toNat:Int))&&((x21.c.a.toNat:Int)==(y29.c.a.toNat:Int))))))))] [] [(24,.bool (!((x21.o==y29.o)&&(((x21.c.r.toNat:Int)==(y29.c.r.toNat:Int))&&(((x21.c.g.toNat:Int)==(y29.c.g.toNat:Int))&&(((x21.c.b.toNat:Int)==(y29.c.b.toNat:Int))&&((x21.c.a.toNat:Int)==(y29.c.a.toNat:Int))))))))] trivial (hk:=⟨vw,rX,aiX (fun _=>Yd ..) (by kernel_rfl),trivial⟩) fun ac u Ei S=>aiF (fZ _ _ ?_)
   refine aiI S (fun hc31=>?_) (fun hc31=>?_)
   ·refine aiG fun _ kM=>adr S 1 [] [(4,.bool false)] fun ac S=>aiF<|kM _ _<|Vp.rt ?_
    refine aiH S Tryz.results138 ?_
    exact⟨aB (sG vw rX (fun e=>by have hq:=hc31; rw[zu,hx27]at e; subst e; simp at hq)),S.E⟩
   ·refine wp_skip<|dB _ _<|Vp.region<|adr S 2 [.re 25 (.int .i64 (IntKind.i64.wrap (((k:Nat):Int)+1))) (.int .i64 (((k+1):Nat):Int))] [(13,.int .i64 (((k+1):Nat):Int))] (hk:=⟨aiR (by omega),trivial⟩) fun ac S=>aiF ?_
    show ∃i',_∧_
    exact⟨(k+1),⟨by omega,(mM vw rX hR (by rw[zu,hx27]; exact Td hc31)),(S.sub [(0,.slice (some ⟨b15,o16,none⟩) l.length cap),(1,.slice (some ⟨b23,o24,none⟩) m.length cap'),(4,.bool false),(12,.int .i64 ((l.length:Nat):Int)),(13,.int .i64 (((k+1):Nat):Int))]).aK⟩,by show _-_<_-_; omega⟩
  ·refine wp_exit<|iK _ _<|aiG fun _ lW=>adr S 1 [] [(4,.bool true)] fun ac S=>aiF<|lW _ _<|Vp.rt ?_
   refine aiH S Tryz.results138 ?_
   exact⟨aB (sH (by have:=of_decide_eq_false bY; omega) (jV hc4) hR),S.E⟩
theorem Vl{w:World}{v u:Value}{l m:List dI}(h:aT 4 dI.cells w v l)(h':aT 4 dI.cells w u m) :
  Calls Tryz.prog 140 #[v,u] w fun e w'=>e = .returned (.bool (decide (l=m)))∧Ext w w':=by
 obtain⟨a,cap,rfl⟩:=h.shape
 obtain⟨d,cap',rfl⟩:=h'.shape
 have hmax:l.length≤9223372036854775807:=h.len
 refine aiK Tryz.func140 Tryz.ntmps140 fun ac S=>aiG fun _ aU=>adr S 1 [] [(4,.bool false)] fun ac S=>aiF<|aU _ _<|wp_seq_k fun _ fE=>aiG fun _ gW=>adr S 5 [] [(10,.bool ((((l.length:Nat):Int)) != ((m.length:Nat):Int)))] fun ac S=>aiF (gW _ _ ?_)
 refine aiI S (fun hc4=>?_) (fun hc4=>?_)
 ·refine aiG fun _ bV=>adr S 1 [] [(4,.bool false)] fun ac S=>aiF<|bV _ _<|Vp.rt ?_
  refine aiH S Tryz.results140 ?_
  exact⟨aB (mJ hc4),S.E⟩
 ·refine wp_skip<|fE _ _<|wp_seq_k fun _ iK=>aiG fun _ kC=>adr S 3 [] [(12,.int .i64 ((l.length:Nat):Int)),(13,.int .i64 0)] fun ac S=>aiF<|kC _ _<|wp_block ?_
  refine Vp.loop (ι:=Nat) (fun p a' w'=>p≤l.length∧(l.take p=m.take p)∧Sx.St w a' w' 26 [(0,.slice a l.length cap),(1,.slice d m.length cap'),(4,.bool false),(12,.int .i64 ((l.length:Nat):Int)),(13,.int .i64 ((p:Nat):Int))] [] []) (fun p=>l.length-p) (0) ⟨Nat.zero_le _,rfl,(S.sub [(0,.slice a l.length cap),(1,.slice d m.length cap'),(4,.bool false),(12,.int .i64 ((l.length:Nat):Int)),(13,.int .i64 ((0:Nat):Int))]).aK⟩ ?_
  rintro k ac u hI
  try dsimp only at hI
  obtain⟨hk,hR,S⟩:=hI
  refine aiG fun _ dP=>adr S 1 [] [(14,.bool (decide (((k:Nat):Int)<((l.length:Nat):Int))))] fun ac S=>aiF<|dP _ _<|wp_seq_k (fun _ gB=>?_)
  refine aiI S (fun bY=>?_) (fun bY=>?_)
  ·refine wp_skip<|gB _ _<|wp_seq_k fun _ dB=>wp_block<|aiG fun _ dw=>adr S 2 [] [(5,.int .i64 ((k:Nat):Int))] fun ac S=>aiF<|dw _ _<|wp_seq_k (fun _ fZ=>?_)
   have vw:k<l.length:=by have:=of_decide_eq_true bY; omega
   obtain⟨b15,o16,c17,hv,Qr,EM⟩:=Vp.aF h (fun _=>rfl) (k) vw
   simp only[Value.slice.injEq,true_and]at hv
   obtain⟨rfl,rfl⟩:=hv
   obtain⟨x21,zu⟩:∃z,l[k]=z:=⟨_,rfl⟩
   rw[zu]at EM
   have S:=S.view0 Qr EM
   have rX:k<m.length:=by have:=jV hc4; have:=of_decide_eq_true bY; omega
   obtain⟨b23,o24,c25,hv,JZ,Ai⟩:=Vp.aF h' (fun _=>rfl) (k) rX
   simp only[Value.slice.injEq,true_and]at hv
   obtain⟨rfl,rfl⟩:=hv
   obtain⟨y29,hx27⟩:∃z,m[k]=z:=⟨_,rfl⟩
   rw[hx27]at Ai
   have S:=S.view0 JZ Ai
   refine aiO S 9 [.idx k l.length,.mem 1 0,.idx k m.length,.mem 0 0,.cmp .neq 122 (.tmp 19) (.tmp 23) (.agg #[.int .u8 (x21.r.toNat:Int),.int .u8 (x21.g.toNat:Int),.int .u8 (x21.b.toNat:Int),.int .u8 (x21.a.toNat:Int)]) (.agg #[.int .u8 (y29.r.toNat:Int),.int .u8 (y29.g.toNat:Int),.int .u8 (y29.b.toNat:Int),.int .u8 (y29.a.toNat:Int)]) (.bool (!(((x21.r.toNat:Int)==(y29.r.toNat:Int))&&(((x21.g.toNat:Int)==(y29.g.toNat:Int))&&(((x21.b.toNat:Int)==(y29.b.toNat:Int))&&((x21.a.toNat:Int)==(y29.a.toNat:Int)))))))] [] [(24,.bool (!(((x21.r.toNat:Int)==(y29.r.toNat:Int))&&(((x21.g.toNat:Int)==(y29.g.toNat:Int))&&(((x21.b.toNat:Int)==(y29.b.toNat:Int))&&((x21.a.toNat:Int)==(y29.a.toNat:Int)))))))] trivial (hk:=⟨vw,rX,aiX (fun _=>abQ ..) (by kernel_rfl),trivial⟩) fun ac u Ei S=>aiF (fZ _ _ ?_)
   refine aiI S (fun hc31=>?_) (fun hc31=>?_)
   ·refine aiG fun _ kM=>adr S 1 [] [(4,.bool false)] fun ac S=>aiF<|kM _ _<|Vp.rt ?_
    refine aiH S Tryz.results140 ?_
    exact⟨aB (sG vw rX (fun e=>by have hq:=hc31; rw[zu,hx27]at e; subst e; simp at hq)),S.E⟩
   ·refine wp_skip<|dB _ _<|Vp.region<|adr S 2 [.re 25 (.int .i64 (IntKind.i64.wrap (((k:Nat):Int)+1))) (.int .i64 (((k+1):Nat):Int))] [(13,.int .i64 (((k+1):Nat):Int))] (hk:=⟨aiR (by omega),trivial⟩) fun ac S=>aiF ?_
    show ∃i',_∧_
    exact⟨(k+1),⟨by omega,(mM vw rX hR (by rw[zu,hx27]; exact Qh hc31)),(S.sub [(0,.slice (some ⟨b15,o16,none⟩) l.length cap),(1,.slice (some ⟨b23,o24,none⟩) m.length cap'),(4,.bool false),(12,.int .i64 ((l.length:Nat):Int)),(13,.int .i64 (((k+1):Nat):Int))]).aK⟩,by show _-_<_-_; omega⟩
  ·refine wp_exit<|iK _ _<|aiG fun _ lW=>adr S 1 [] [(4,.bool true)] fun ac S=>aiF<|lW _ _<|Vp.rt ?_
   refine aiH S Tryz.results140 ?_
   exact⟨aB (sH (by have:=of_decide_eq_false bY; omega) (jV hc4) hR),S.E⟩
theorem Vm{w:World}{v u:Value}{l m:List Int}(h:aT 1 (fun x=>[zf x]) w v l)(h':aT 1 (fun x=>[zf x]) w u m) :
  Calls Tryz.prog 139 #[v,u] w fun e w'=>e = .returned (.bool (decide (l=m)))∧Ext w w':=by
 obtain⟨a,cap,rfl⟩:=h.shape
 obtain⟨d,cap',rfl⟩:=h'.shape
 have hmax:l.length≤9223372036854775807:=h.len
 refine aiK Tryz.func139 Tryz.ntmps139 fun ac S=>aiG fun _ aU=>adr S 1 [] [(4,.bool false)] fun ac S=>aiF<|aU _ _<|wp_seq_k fun _ fE=>aiG fun _ gW=>adr S 5 [] [(10,.bool ((((l.length:Nat):Int)) != ((m.length:Nat):Int)))] fun ac S=>aiF (gW _ _ ?_)
 refine aiI S (fun hc4=>?_) (fun hc4=>?_)
 ·refine aiG fun _ bV=>adr S 1 [] [(4,.bool false)] fun ac S=>aiF<|bV _ _<|Vp.rt ?_
  refine aiH S Tryz.results139 ?_
  exact⟨aB (mJ hc4),S.E⟩
 ·refine wp_skip<|fE _ _<|wp_seq_k fun _ iK=>aiG fun _ kC=>adr S 3 [] [(12,.int .i64 ((l.length:Nat):Int)),(13,.int .i64 0)] fun ac S=>aiF<|kC _ _<|wp_block ?_
  refine Vp.loop (ι:=Nat) (fun p a' w'=>p≤l.length∧(l.take p=m.take p)∧Sx.St w a' w' 26 [(0,.slice a l.length cap),(1,.slice d m.length cap'),(4,.bool false),(12,.int .i64 ((l.length:Nat):Int)),(13,.int .i64 ((p:Nat):Int))] [] []) (fun p=>l.length-p) (0) ⟨Nat.zero_le _,rfl,(S.sub [(0,.slice a l.length cap),(1,.slice d m.length cap'),(4,.bool false),(12,.int .i64 ((l.length:Nat):Int)),(13,.int .i64 ((0:Nat):Int))]).aK⟩ ?_
  rintro k ac u hI
  try dsimp only at hI
  obtain⟨hk,hR,S⟩:=hI
  refine aiG fun _ dP=>adr S 1 [] [(14,.bool (decide (((k:Nat):Int)<((l.length:Nat):Int))))] fun ac S=>aiF<|dP _ _<|wp_seq_k (fun _ gB=>?_)
  refine aiI S (fun bY=>?_) (fun bY=>?_)
  ·refine wp_skip<|gB _ _<|wp_seq_k fun _ dB=>wp_block<|aiG fun _ dw=>adr S 2 [] [(5,.int .i64 ((k:Nat):Int))] fun ac S=>aiF<|dw _ _<|wp_seq_k (fun _ fZ=>?_)
   have vw:k<l.length:=by have:=of_decide_eq_true bY; omega
   obtain⟨b15,o16,c17,hv,Qr,EM⟩:=Vp.aF h (fun _=>rfl) (k) vw
   simp only[Value.slice.injEq,true_and]at hv
   obtain⟨rfl,rfl⟩:=hv
   obtain⟨x21,zu⟩:∃z,l[k]=z:=⟨_,rfl⟩
   rw[zu]at EM
   have S:=S.view0 Qr EM
   have rX:k<m.length:=by have:=jV hc4; have:=of_decide_eq_true bY; omega
   obtain⟨b23,o24,c25,hv,JZ,Ai⟩:=Vp.aF h' (fun _=>rfl) (k) rX
   simp only[Value.slice.injEq,true_and]at hv
   obtain⟨rfl,rfl⟩:=hv
   obtain⟨y29,hx27⟩:∃z,m[k]=z:=⟨_,rfl⟩
   rw[hx27]at Ai
   have S:=S.view0 JZ Ai
   refine aiO S 9 [.idx k l.length,.mem 1 0,.idx k m.length,.mem 0 0] [] [(24,.bool ((x21) != y29))] trivial (hk:=⟨vw,rX,trivial⟩) fun ac u Ei S=>aiF (fZ _ _ ?_)
   refine aiI S (fun hc31=>?_) (fun hc31=>?_)
   ·refine aiG fun _ kM=>adr S 1 [] [(4,.bool false)] fun ac S=>aiF<|kM _ _<|Vp.rt ?_
    refine aiH S Tryz.results139 ?_
    exact⟨aB (sG vw rX (fun e=>by have hq:=hc31; rw[zu,hx27]at e; subst e; simp at hq)),S.E⟩
   ·refine wp_skip<|dB _ _<|Vp.region<|adr S 2 [.re 25 (.int .i64 (IntKind.i64.wrap (((k:Nat):Int)+1))) (.int .i64 (((k+1):Nat):Int))] [(13,.int .i64 (((k+1):Nat):Int))] (hk:=⟨aiR (by omega),trivial⟩) fun ac S=>aiF ?_
    show ∃i',_∧_
    exact⟨(k+1),⟨by omega,(mM vw rX hR (by rw[zu,hx27]; exact Yh hc31)),(S.sub [(0,.slice (some ⟨b15,o16,none⟩) l.length cap),(1,.slice (some ⟨b23,o24,none⟩) m.length cap'),(4,.bool false),(12,.int .i64 ((l.length:Nat):Int)),(13,.int .i64 (((k+1):Nat):Int))]).aK⟩,by show _-_<_-_; omega⟩
  ·refine wp_exit<|iK _ _<|aiG fun _ lW=>adr S 1 [] [(4,.bool true)] fun ac S=>aiF<|lW _ _<|Vp.rt ?_
   refine aiH S Tryz.results139 ?_
   exact⟨aB (sH (by have:=of_decide_eq_false bY; omega) (jV hc4) hR),S.E⟩
open Go.RowKit
variable{α:Type}
theorem Vo(p:dI):(((min (p.r.toNat:Int) (p.a.toNat:Int))==(p.r.toNat:Int))&&(((min (p.g.toNat:Int) (p.a.toNat:Int))==(p.g.toNat:Int))&&(((min (p.b.toNat:Int) (p.a.toNat:Int))==(p.b.toNat:Int))&&((min (p.a.toNat:Int) (p.a.toNat:Int))==(p.a.toNat:Int)))))=p.valid:=by
 have h:∀x y:UInt8,((min (x.toNat:Int) (y.toNat:Int))==(x.toNat:Int))=decide (x≤y):=by
  intro x y; rw[Bool.eq_iff_iff]; simp only[beq_iff_eq,decide_eq_true_eq,UInt8.le_iff_toNat_le]; omega
 rw[h,h,h,h]; unfold dI.valid; simp
theorem mP{l:List α}{k:Nat}{p:α→Bool}(hk:l.length≤k)(h:(l.take k).all p=true):l.all p=true:=by rwa [List.take_of_length_le hk]at h
theorem vg{l:List α}{k:Nat}{p:α→Bool}(hk:k<l.length)(h:p l[k]=false):l.all p=false:=by
 rw[List.all_eq_false]; exact⟨l[k],List.getElem_mem hk,by simp[h]⟩
theorem jR{l:List α}{k:Nat}{p:α→Bool}(hk:k<l.length)(hR:(l.take k).all p=true)(h:p l[k]=true):(l.take (k+1)).all p=true:=by
 rw[List.take_succ_eq_append_getElem hk,List.all_append,hR]; simp[h]
theorem BH{a b:Int}(ha:side a=true)(hb:side b=true):IntKind.i64.wrap (a*b)=a*b:=by
 simp only[side,Bool.and_eq_true,decide_eq_true_eq]at ha hb
 have h1:a*b≤4096*4096:=Int.le_trans (Int.mul_le_mul_of_nonneg_right ha.2 (by omega)) (Int.mul_le_mul_of_nonneg_left hb.2 (by omega))
 have h0:0≤a*b:=Int.mul_nonneg (by omega) (by omega)
 rw[IntKind.wrap_i64]; omega
theorem MR{m:bU}:((((!(side m.w))||(!(side m.h)))||(decide (65536<IntKind.i64.wrap (m.w*m.h))))||(((m.l.length:Nat):Int) != IntKind.i64.wrap (m.w*m.h)))=((((!(side m.w))||(!(side m.h)))||(decide (65536<(m.w*m.h))))||(((m.l.length:Nat):Int) != (m.w*m.h))):=by
 cases ha:side m.w<;>cases hb:side m.h<;>simp only[Bool.not_false,Bool.not_true,Bool.true_or,Bool.false_or,Bool.or_true]
 rw[BH ha hb]
theorem ac7{m:bU}(h:((((!(side m.w))||(!(side m.h)))||(decide (65536<(m.w*m.h))))||(((m.l.length:Nat):Int) != (m.w*m.h)))=true):false=m.valid:=by
 unfold bU.valid bU.size
 revert h
 cases side m.w<;>cases side m.h<;>simp
 intro h h1 h2; omega
theorem aaQ{m:bU}(h:((((!(side m.w))||(!(side m.h)))||(decide (65536<(m.w*m.h))))||(((m.l.length:Nat):Int) != (m.w*m.h)))=false):(!(!(m.l.all dI.valid)))=m.valid:=by
 unfold bU.valid bU.size
 revert h
 cases side m.w<;>cases side m.h<;>simp
 intro h h1; rw[h1]; simp[h]
theorem ac8{m n:bU}:((m.w==n.w)&&(m.h==n.h)&&decide (m.l=n.l))=m.eq n:=by
 unfold bU.eq
 rw[Bool.and_assoc]
 by_cases h:m.l=n.l<;>simp[h]
theorem Vq{l:List fK}(h:((decide (((l.length:Nat):Int)<1))||(decide (16<((l.length:Nat):Int))))=true):false=dY l:=by
 unfold dY
 simp only[Bool.or_eq_true,decide_eq_true_eq]at h
 rcases h with h | h
 ·rw[decide_eq_false (by omega)]; rfl
 ·rw[decide_eq_false (p:=l.length≤16) (by omega)]; simp
theorem MS{l:List fK}(h:((decide (((l.length:Nat):Int)<1))||(decide (16<((l.length:Nat):Int))))=false):dY l=bZ 0 l:=by
 unfold dY
 simp only[Bool.or_eq_false_iff,decide_eq_false_iff_not]at h
 rw[decide_eq_true (p:=1≤l.length) (by omega),decide_eq_true (p:=l.length≤16) (by omega)]; rfl
theorem Vr{l:List fK}{k:Nat}{last:Int}(h:((decide (((l.length:Nat):Int)<1))||(decide (16<((l.length:Nat):Int))))=false)(hk:l.length≤k)(hR:bZ 0 l=bZ last (l.drop k)):true=dY l:=by
 rw[MS h,hR,List.drop_eq_nil_of_le hk]; rfl
theorem Vs{l:List fK}{k:Nat}{last:Int}(h:((decide (((l.length:Nat):Int)<1))||(decide (16<((l.length:Nat):Int))))=false)(hk:k<l.length)(hR:bZ 0 l=bZ last (l.drop k))(hb:((decide (l[k].o<last))||(decide (65536<l[k].o)))=true):false=dY l:=by
 rw[MS h,hR,List.drop_eq_getElem_cons hk,bZ]
 simp only[Bool.or_eq_true,decide_eq_true_eq]at hb
 rcases hb with hb | hb
 ·rw[decide_eq_false (by omega)]; rfl
 ·rw[decide_eq_false (p:=l[k].o≤65536) (by omega)]; simp
theorem Qu{l:List fK}{k:Nat}{last:Int}(hk:k<l.length)(hR:bZ 0 l=bZ last (l.drop k))(hb:((decide (l[k].o<last))||(decide (65536<l[k].o)))=false):bZ 0 l=bZ l[k].o (l.drop (k+1)):=by
 rw[hR,List.drop_eq_getElem_cons hk,bZ]
 simp only[Bool.or_eq_false_iff,decide_eq_false_iff_not]at hb
 rw[decide_eq_true (p:=last≤l[k].o) (by omega),decide_eq_true (p:=l[k].o≤65536) (by omega)]; rfl
theorem vC{w:World}{b:Nat}(p:dI)(x:Int)(hx:Bx w b #[.int .u8 (p.r.toNat:Int),.int .u8 (p.g.toNat:Int),.int .u8 (p.b.toNat:Int),.int .u8 (p.a.toNat:Int)]) :
  Calls Tryz.prog 231 #[.int .u8 x,.pointer (some ⟨b,0,none⟩)] w fun e w'=>e = .returned (.int .u8 (min x (p.a.toNat:Int)))∧w=w':=by
 skip
 refine aiK Tryz.func231 Tryz.ntmps231 (fun ac S=>?_)
 have S:=S.view0 hx.1 (hx.range 0 4 rfl)
 refine aiG fun _ aU=>adr S 1 [] [(3,.int .u8 0)] fun ac S=>aiF<|aU _ _<|aiG fun _ fE=>adr S 5 [.mem 0 3,.re 7 (.int .u8 (if (p.a.toNat:Int)<x then (p.a.toNat:Int)else x)) (.int .u8 (min x (p.a.toNat:Int)))] [(3,.int .u8 (min x (p.a.toNat:Int)))] (hk:=⟨Sx.ac9,trivial⟩) fun ac S=>aiF<|fE _ _<|Vp.rt ?_
 refine aiH S Tryz.results231 ?_
 exact⟨rfl,rfl⟩
theorem Yy{w:World}{b:Nat}(p:dI)(hx:Bx w b #[.int .u8 (p.r.toNat:Int),.int .u8 (p.g.toNat:Int),.int .u8 (p.b.toNat:Int),.int .u8 (p.a.toNat:Int)]) :
  Calls Tryz.prog 230 #[.agg #[.int .u8 (p.r.toNat:Int),.int .u8 (p.g.toNat:Int),.int .u8 (p.b.toNat:Int),.int .u8 (p.a.toNat:Int)],.func (.func 231) #[] #[.pointer (some ⟨b,0,none⟩)]] w fun e w'=>e = .returned (.agg #[.int .u8 (min (p.r.toNat:Int) (p.a.toNat:Int)),.int .u8 (min (p.g.toNat:Int) (p.a.toNat:Int)),.int .u8 (min (p.b.toNat:Int) (p.a.toNat:Int)),.int .u8 (min (p.a.toNat:Int) (p.a.toNat:Int))])∧Ext w w':=by
 skip
 refine aiK Tryz.func230 Tryz.ntmps230 (fun ac S=>?_)
 have S:=S.view0 hx.1 (hx.range 0 4 rfl)
 refine aiG fun _ aU=>aiJ S 2 p.cells fun ac u b2 E3 hb4 S=>aiJ S 4 [.int .u8 0,.int .u8 0,.int .u8 0,.int .u8 0] fun ac u b5 E6 hb7 S=>aiF<|aU _ _<|wp_seq_k fun _ dP=>aiO S 17 [.mem 1 0,.mem 1 1,.mem 1 2,.mem 1 3] [(_,_,true,.int .u8 (min (p.r.toNat:Int) (p.a.toNat:Int))),(_,_,true,.int .u8 (min (p.g.toNat:Int) (p.a.toNat:Int))),(_,_,true,.int .u8 (min (p.b.toNat:Int) (p.a.toNat:Int))),(_,_,true,.int .u8 (min (p.a.toNat:Int) (p.a.toNat:Int)))] [(21,.agg #[.int .u8 (min (p.r.toNat:Int) (p.a.toNat:Int)),.int .u8 (min (p.g.toNat:Int) (p.a.toNat:Int)),.int .u8 (min (p.b.toNat:Int) (p.a.toNat:Int)),.int .u8 (min (p.a.toNat:Int) (p.a.toNat:Int))])] ⟨fun u hC g=>aiU (vC p (p.r.toNat:Int) (hx.ext (Ext.trans' S.E hC))),fun u hC g=>aiU (vC p (p.g.toNat:Int) (hx.ext (Ext.trans' S.E hC))),fun u hC g=>aiU (vC p (p.b.toNat:Int) (hx.ext (Ext.trans' S.E hC))),fun u hC g=>aiU (vC p (p.a.toNat:Int) (hx.ext (Ext.trans' S.E hC))),trivial⟩ fun ac u E9 S=>aiL S 0 (off:=0) (cs:=[.int .u8 (min (p.r.toNat:Int) (p.a.toNat:Int)),.int .u8 (min (p.g.toNat:Int) (p.a.toNat:Int)),.int .u8 (min (p.b.toNat:Int) (p.a.toNat:Int)),.int .u8 (min (p.a.toNat:Int) (p.a.toNat:Int))]) rfl fun u C10 S=>aiF<|dP _ _<|Vp.rt ?_
 refine aiS S 0 Tryz.results230 rfl (v := .agg #[.int .u8 (min (p.r.toNat:Int) (p.a.toNat:Int)),.int .u8 (min (p.g.toNat:Int) (p.a.toNat:Int)),.int .u8 (min (p.b.toNat:Int) (p.a.toNat:Int)),.int .u8 (min (p.a.toNat:Int) (p.a.toNat:Int))]) ?_
 exact⟨rfl,S.E⟩
theorem Qv(p:dI)(w:World) :
  Calls Tryz.prog 201 #[.agg #[.int .u8 (p.r.toNat:Int),.int .u8 (p.g.toNat:Int),.int .u8 (p.b.toNat:Int),.int .u8 (p.a.toNat:Int)]] w fun e w'=>e = .returned (.agg #[.int .u8 (min (p.r.toNat:Int) (p.a.toNat:Int)),.int .u8 (min (p.g.toNat:Int) (p.a.toNat:Int)),.int .u8 (min (p.b.toNat:Int) (p.a.toNat:Int)),.int .u8 (min (p.a.toNat:Int) (p.a.toNat:Int))])∧Ext w w':=by
 skip
 refine aiK Tryz.func201 Tryz.ntmps201 fun ac S=>aiG fun _ aU=>aiJ S 1 p.cells fun ac u b2 E3 hb4 S=>aiJ S 2 [.int .u8 0,.int .u8 0,.int .u8 0,.int .u8 0] fun ac u b5 E6 hb7 S=>aiF<|aU _ _<|aiG fun _ dP=>adr S 2 [.mem 1 0] [(3,.agg p.cells.toArray),(4,.func (.func 231) #[] #[.pointer (some ⟨b2,0,none⟩)])] fun ac S=>aiM S 5 (Yy p (S.bx 1)) fun ac u E9 S=>aiL S 0 (off:=0) (cs:=[.int .u8 (min (p.r.toNat:Int) (p.a.toNat:Int)),.int .u8 (min (p.g.toNat:Int) (p.a.toNat:Int)),.int .u8 (min (p.b.toNat:Int) (p.a.toNat:Int)),.int .u8 (min (p.a.toNat:Int) (p.a.toNat:Int))]) rfl fun u C10 S=>aiF<|dP _ _<|Vp.rt ?_
 refine aiS S 0 Tryz.results201 rfl (v := .agg #[.int .u8 (min (p.r.toNat:Int) (p.a.toNat:Int)),.int .u8 (min (p.g.toNat:Int) (p.a.toNat:Int)),.int .u8 (min (p.b.toNat:Int) (p.a.toNat:Int)),.int .u8 (min (p.a.toNat:Int) (p.a.toNat:Int))]) ?_
 exact⟨rfl,S.E⟩
theorem J3(p:dI)(w:World) :
  Calls Tryz.prog 160 #[.agg #[.int .u8 (p.r.toNat:Int),.int .u8 (p.g.toNat:Int),.int .u8 (p.b.toNat:Int),.int .u8 (p.a.toNat:Int)]] w fun e w'=>e = .returned (.bool p.valid)∧Ext w w':=by
 skip
 refine aiK Tryz.func160 Tryz.ntmps160 fun ac S=>aiG fun _ aU=>aiJ S 1 p.cells fun ac u b2 E3 hb4 S=>adr S 1 [] [(2,.bool false)] fun ac S=>aiF<|aU _ _<|wp_seq_k fun _ bV=>aiO S 4 [.mem 0 0,.mem 0 0,.cmp .eql 122 (.tmp 4) (.tmp 5) (.agg #[.int .u8 (min (p.r.toNat:Int) (p.a.toNat:Int)),.int .u8 (min (p.g.toNat:Int) (p.a.toNat:Int)),.int .u8 (min (p.b.toNat:Int) (p.a.toNat:Int)),.int .u8 (min (p.a.toNat:Int) (p.a.toNat:Int))]) (.agg #[.int .u8 (p.r.toNat:Int),.int .u8 (p.g.toNat:Int),.int .u8 (p.b.toNat:Int),.int .u8 (p.a.toNat:Int)]) (.bool (((min (p.r.toNat:Int) (p.a.toNat:Int))==(p.r.toNat:Int))&&(((min (p.g.toNat:Int) (p.a.toNat:Int))==(p.g.toNat:Int))&&(((min (p.b.toNat:Int) (p.a.toNat:Int))==(p.b.toNat:Int))&&((min (p.a.toNat:Int) (p.a.toNat:Int))==(p.a.toNat:Int))))))] [(_,_,true,.agg #[.int .u8 (min (p.r.toNat:Int) (p.a.toNat:Int)),.int .u8 (min (p.g.toNat:Int) (p.a.toNat:Int)),.int .u8 (min (p.b.toNat:Int) (p.a.toNat:Int)),.int .u8 (min (p.a.toNat:Int) (p.a.toNat:Int))])] [(6,.bool (((min (p.r.toNat:Int) (p.a.toNat:Int))==(p.r.toNat:Int))&&(((min (p.g.toNat:Int) (p.a.toNat:Int))==(p.g.toNat:Int))&&(((min (p.b.toNat:Int) (p.a.toNat:Int))==(p.b.toNat:Int))&&((min (p.a.toNat:Int) (p.a.toNat:Int))==(p.a.toNat:Int))))))] ⟨fun u hC g=>Qv p _,trivial⟩ (hk:=⟨aiX (fun _=>aeK ..) (by kernel_rfl),trivial⟩) fun ac u E6 S=>adr S 1 [] [(2,.bool (((min (p.r.toNat:Int) (p.a.toNat:Int))==(p.r.toNat:Int))&&(((min (p.g.toNat:Int) (p.a.toNat:Int))==(p.g.toNat:Int))&&(((min (p.b.toNat:Int) (p.a.toNat:Int))==(p.b.toNat:Int))&&((min (p.a.toNat:Int) (p.a.toNat:Int))==(p.a.toNat:Int))))))] fun ac S=>aiF<|bV _ _<|Vp.rt ?_
 refine aiH S Tryz.results160 ?_
 exact⟨aB (Vo p),S.E⟩
theorem Qw(p:dI)(w:World) :
  Calls Tryz.prog 159 #[.agg #[.int .u8 (p.r.toNat:Int),.int .u8 (p.g.toNat:Int),.int .u8 (p.b.toNat:Int),.int .u8 (p.a.toNat:Int)]] w fun e w'=>e = .returned (.bool (!p.valid))∧Ext w w':=by
 skip
 refine aiK Tryz.func159 Tryz.ntmps159 fun ac S=>aiG fun _ aU=>aiJ S 1 p.cells fun ac u b2 E3 hb4 S=>adr S 1 [] [(2,.bool false)] fun ac S=>aiF<|aU _ _<|aiG fun _ bV=>adr S 1 [.mem 0 0] [(3,.agg p.cells.toArray)] fun ac S=>aiM S 4 (J3 p _) fun ac u E6 S=>adr S 2 [] [(2,.bool (!p.valid))] fun ac S=>aiF<|bV _ _<|Vp.rt ?_
 refine aiH S Tryz.results159 ?_
 exact⟨rfl,S.E⟩
theorem J4{w:World}{v:Value}{l:List dI}(h:aT 4 dI.cells w v l) :
  Calls Tryz.prog 200 #[v,.func (.func 159) #[] #[]] w fun e w'=>∃z,e = .returned (.int .i64 z)∧decide (0≤z) = !(l.all dI.valid)∧Ext w w':=by
 obtain⟨a,cap,rfl⟩:=h.shape
 have hmax:l.length≤9223372036854775807:=h.len
 refine aiK Tryz.func200 Tryz.ntmps200 fun ac S=>aiG fun _ aU=>adr S 1 [] [(4,.int .i64 0)] fun ac S=>aiF<|aU _ _<|wp_seq_k fun _ fE=>aiG fun _ gW=>adr S 3 [] [(7,.int .i64 ((l.length:Nat):Int)),(8,.int .i64 0)] fun ac S=>aiF<|gW _ _<|wp_block ?_
 refine Vp.loop (ι:=Nat) (fun p a' w'=>p≤l.length∧((l.take p).all dI.valid=true)∧Sx.St w a' w' 19 [(0,.slice a l.length cap),(1,.func (.func 159) #[] #[]),(4,.int .i64 0),(7,.int .i64 ((l.length:Nat):Int)),(8,.int .i64 ((p:Nat):Int))] [] []) (fun p=>l.length-p) (0) ⟨Nat.zero_le _,rfl,(S.sub [(0,.slice a l.length cap),(1,.func (.func 159) #[] #[]),(4,.int .i64 0),(7,.int .i64 ((l.length:Nat):Int)),(8,.int .i64 ((0:Nat):Int))]).aK⟩ ?_
 rintro k ac u hI
 try dsimp only at hI
 obtain⟨hk,hR,S⟩:=hI
 refine aiG fun _ lG=>adr S 1 [] [(9,.bool (decide (((k:Nat):Int)<((l.length:Nat):Int))))] fun ac S=>aiF<|lG _ _<|wp_seq_k (fun _ bV=>?_)
 refine aiI S (fun hc6=>?_) (fun hc6=>?_)
 ·refine wp_skip<|bV _ _<|wp_seq_k fun _ kC=>wp_block<|aiG fun _ dP=>adr S 2 [] [(5,.int .i64 ((k:Nat):Int))] fun ac S=>aiF<|dP _ _<|aiG (fun _ gB=>?_)
  have nG:k<l.length:=by have:=of_decide_eq_true hc6; omega
  obtain⟨b10,Vt,c12,hv,Dy,wH⟩:=Vp.aF h (fun _=>rfl) (k) nG
  simp only[Value.slice.injEq,true_and]at hv
  obtain⟨rfl,rfl⟩:=hv
  obtain⟨x16,pO⟩:∃z,l[k]=z:=⟨_,rfl⟩
  rw[pO]at wH
  have S:=S.view0 Dy wH
  refine adr S 5 [.idx k l.length,.mem 0 0] [(11,.func (.func 159) #[] #[]),(15,.agg x16.cells.toArray)] (hk:=⟨nG,trivial⟩) fun ac S=>aiM S 16 (Qw x16 _) fun ac u JD S=>aiF (gB _ _ ?_)
  refine aiI S (fun hc19=>?_) (fun hc19=>?_)
  ·refine aiG fun _ iU=>adr S 2 [] [(4,.int .i64 ((k:Nat):Int))] fun ac S=>aiF<|iU _ _<|Vp.rt ?_
   refine aiH S Tryz.results200 ?_
   exact⟨_,rfl,by rw[vg nG (by rw[pO]; simpa using hc19)]; simp,S.E⟩
  ·refine wp_skip<|kC _ _<|Vp.region<|adr S 2 [.re 18 (.int .i64 (IntKind.i64.wrap (((k:Nat):Int)+1))) (.int .i64 (((k+1):Nat):Int))] [(8,.int .i64 (((k+1):Nat):Int))] (hk:=⟨aiR (by omega),trivial⟩) fun ac S=>aiF ?_
   show ∃i',_∧_
   exact⟨(k+1),⟨by omega,(jR nG hR (by rw[pO]; simpa using hc19)),(S.sub [(0,.slice (some ⟨b10,Vt,none⟩) l.length cap),(1,.func (.func 159) #[] #[]),(4,.int .i64 0),(7,.int .i64 ((l.length:Nat):Int)),(8,.int .i64 (((k+1):Nat):Int))]).aK⟩,by show _-_<_-_; omega⟩
 ·refine wp_exit<|fE _ _<|aiG fun _ jo=>adr S 1 [] [(4,.int .i64 (-1))] fun ac S=>aiF<|jo _ _<|Vp.rt ?_
  refine aiH S Tryz.results200 ?_
  exact⟨_,rfl,by rw[mP (by have:=of_decide_eq_false hc6; omega) hR]; rfl,S.E⟩
theorem MV{w:World}{v:Value}{l:List dI}(h:aT 4 dI.cells w v l) :
  Calls Tryz.prog 158 #[v,.func (.func 159) #[] #[]] w fun e w'=>e = .returned (.bool (!(l.all dI.valid)))∧Ext w w':=by
 skip
 refine aiK Tryz.func158 Tryz.ntmps158 fun ac S=>aiG fun _ aU=>adr S 1 [] [(4,.bool false)] fun ac S=>aiF<|aU _ _<|aiG fun _ fE=>adr S 2 [] [(5,v),(6,.func (.func 159) #[] #[])] fun ac S=>aiQ S (some 7) (J4 (h.below S.E)) ?_
 rintro e u ⟨z,rfl,hz,E3⟩
 refine⟨_,rfl,E3,fun ac S=>?_⟩
 refine adr S 2 [] [(4,.bool (decide (0≤z)))] fun ac S=>aiF<|fE _ _<|Vp.rt ?_
 refine aiH S Tryz.results158 ?_
 exact⟨aB hz,S.E⟩
theorem MW(n:Int)(w:World) :
  Calls Tryz.prog 157 #[.int .i64 n] w fun e w'=>e = .returned (.bool (side n))∧w=w':=by
 skip
 refine aiK Tryz.func157 Tryz.ntmps157 fun ac S=>aiG fun _ aU=>adr S 1 [] [(2,.bool false)] fun ac S=>aiF<|aU _ _<|aiG fun _ fE=>adr S 7 [] [(2,.bool ((decide (1≤n))&&(decide (n≤4096))))] fun ac S=>aiF<|fE _ _<|Vp.rt ?_
 refine aiH S Tryz.results157 ?_
 exact⟨rfl,rfl⟩
theorem Aj{w:World}{m:bU}(h:m.ok w) :
  Calls Tryz.prog 121 #[m.v] w fun e w'=>e = .returned (.bool m.valid)∧Ext w w':=by
 obtain⟨a,cap,hs⟩:=h.2.2.shape
 unfold bU.v
 have hq:=h.2.2
 rw[hs]
 rw[hs]at hq
 refine aiK Tryz.func121 Tryz.ntmps121 fun ac S=>aiG fun _ aU=>aiJ S 1 [.int .i64 m.w,.int .i64 m.h,.slice a m.l.length cap] fun ac u b2 E3 hb4 S=>adr S 1 [] [(2,.bool false)] fun ac S=>aiF<|aU _ _<|aiG fun _ bV=>adr S 1 [] [(3,.func (.func 157) #[] #[])] fun ac S=>aiF<|bV _ _<|wp_seq_k fun _ iK=>aiG fun _ kC=>adr S 3 [.mem 0 0] [(4,.func (.func 157) #[] #[]),(6,.int .i64 m.w)] fun ac S=>ai1 S 7 (MW m.w _) fun ac S=>aiT S 27 [.mem 0 1,.mem 0 0,.mem 0 1,.mem 0 2,.mem 0 0,.mem 0 1] [(_,_,(!(!(side m.w))),.bool (side m.h))] [(34,.bool ((((!(side m.w))||(!(side m.h)))||(decide (65536<(IntKind.i64.wrap (m.w*m.h)))))||((((m.l.length:Nat):Int)) != (IntKind.i64.wrap (m.w*m.h)))))] ⟨fun u hC g=>aiU (MW m.h _),trivial⟩ fun ac u E8 S=>aiF (kC _ _ ?_)
 refine aiI S (fun hc9=>?_) (fun hc9=>?_)
 ·refine aiG fun _ dV=>adr S 1 [] [(2,.bool false)] fun ac S=>aiF<|dV _ _<|Vp.rt ?_
  refine aiH S Tryz.results121 ?_
  exact⟨aB (ac7 (MR▸hc9)),S.E⟩
 ·refine wp_skip<|iK _ _<|aiG fun _ dB=>adr S 2 [.mem 0 2] [(36,.slice a m.l.length cap)] fun ac S=>aiM S 37 (MV (hq.below S.E)) fun ac u H6 S=>adr S 2 [] [(2,.bool (!(!(m.l.all dI.valid))))] fun ac S=>aiF<|dB _ _<|Vp.rt ?_
  refine aiH S Tryz.results121 ?_
  exact⟨aB (aaQ (MR▸hc9)),S.E⟩
theorem vF{w:World}{m n:bU}(h:m.ok w)(h':n.ok w) :
  Calls Tryz.prog 97 #[m.v,n.v] w fun e w'=>e = .returned (.bool (m.eq n))∧Ext w w':=by
 skip
 refine aiK Tryz.func97 Tryz.ntmps97 fun ac S=>aiG fun _ aU=>aiJ S 2 m.cells fun ac u b2 E3 hb4 S=>aiJ S 3 n.cells fun ac u b5 E6 hb7 S=>adr S 1 [] [(4,.bool false)] fun ac S=>aiF<|aU _ _<|aiG fun _ dP=>aiT S 20 [.mem 1 0,.mem 0 0,.mem 1 1,.mem 0 1,.mem 1 2,.mem 0 2] [(_,_,(((m.w)==n.w)&&((m.h)==n.h)),.bool (decide (m.l=n.l)))] [(4,.bool ((((m.w)==n.w)&&((m.h)==n.h))&&(decide (m.l=n.l))))] ⟨fun u hC g=>Vl (h.2.2.below (Ext.trans' S.E hC)) (h'.2.2.below (Ext.trans' S.E hC)),trivial⟩ fun ac u E9 S=>aiF<|dP _ _<|Vp.rt ?_
 refine aiH S Tryz.results97 ?_
 exact⟨aB ac8,S.E⟩
theorem Ic{w:World}{v:Value}{l:List fK}(h:aT 5 fK.cells w v l) :
  Calls Tryz.prog 251 #[v] w fun e w'=>e = .returned (.bool (dY l))∧Ext w w':=by
 obtain⟨a,cap,rfl⟩:=h.shape
 have hmax:l.length≤9223372036854775807:=h.len
 refine aiK Tryz.func251 Tryz.ntmps251 fun ac S=>aiG fun _ aU=>adr S 1 [] [(2,.bool false)] fun ac S=>aiF<|aU _ _<|wp_seq_k fun _ fE=>aiG fun _ gW=>adr S 8 [] [(13,.bool ((decide (((l.length:Nat):Int)<1))||(decide (16<((l.length:Nat):Int)))))] fun ac S=>aiF (gW _ _ ?_)
 refine aiI S (fun hc4=>?_) (fun hc4=>?_)
 ·refine aiG fun _ bV=>adr S 1 [] [(2,.bool false)] fun ac S=>aiF<|bV _ _<|Vp.rt ?_
  refine aiH S Tryz.results251 ?_
  exact⟨aB (Vq hc4),S.E⟩
 ·refine wp_skip<|fE _ _<|aiG fun _ iK=>adr S 1 [] [(3,.int .i64 0)] fun ac S=>aiF<|iK _ _<|wp_seq_k fun _ kC=>aiG fun _ dP=>adr S 3 [] [(14,.slice a l.length cap),(15,.int .i64 ((l.length:Nat):Int)),(16,.int .i64 0)] fun ac S=>aiF<|dP _ _<|wp_block ?_
  refine Vp.loop (ι:=Nat×Int) (fun p a' w'=>p.1≤l.length∧(bZ 0 l=bZ p.2 (l.drop p.1))∧Sx.St w a' w' 32 [(0,.slice a l.length cap),(2,.bool false),(3,.int .i64 p.2),(14,.slice a l.length cap),(15,.int .i64 ((l.length:Nat):Int)),(16,.int .i64 ((p.1:Nat):Int))] [] []) (fun p=>l.length-p.1) (0,0) ⟨Nat.zero_le _,rfl,(S.sub [(0,.slice a l.length cap),(2,.bool false),(3,.int .i64 0),(14,.slice a l.length cap),(15,.int .i64 ((l.length:Nat):Int)),(16,.int .i64 ((0:Nat):Int))]).aK⟩ ?_
  rintro⟨k,last⟩ ac u hI
  try dsimp only at hI
  obtain⟨hk,hR,S⟩:=hI
  refine aiG fun _ gB=>adr S 1 [] [(17,.bool (decide (((k:Nat):Int)<((l.length:Nat):Int))))] fun ac S=>aiF<|gB _ _<|wp_seq_k (fun _ dV=>?_)
  refine aiI S (fun gu=>?_) (fun gu=>?_)
  ·refine wp_skip<|dV _ _<|wp_seq_k fun _ dw=>wp_block<|aiG (fun _ fZ=>?_)
   have kF:k<l.length:=by have:=of_decide_eq_true gu; omega
   obtain⟨b14,S9,c16,hv,yX,um⟩:=Vp.aF h (fun _=>rfl) (k) kF
   simp only[Value.slice.injEq,true_and]at hv
   obtain⟨rfl,rfl⟩:=hv
   obtain⟨x20,lX⟩:∃z,l[k]=z:=⟨_,rfl⟩
   rw[lX]at um
   have S:=S.view0 yX um
   refine adr S 2 [.idx k l.length,.mem 0 0] [(19,.agg x20.cells.toArray)] (hk:=⟨kF,trivial⟩) fun ac S=>aiJ S 5 [.int .i64 0,.int .u8 0,.int .u8 0,.int .u8 0,.int .u8 0] fun ac u b22 JA Qx S=>aiL S 0 (off:=0) (cs:=x20.cells) rfl fun u C25 S=>aiF<|fZ _ _<|wp_seq_k fun _ kH=>aiG fun _ lJ=>adr S 9 [.mem 0 0,.mem 0 0] [(28,.bool ((decide (x20.o<last))||(decide (65536<x20.o))))] fun ac S=>aiF (lJ _ _ ?_)
   refine aiI S (fun hc28=>?_) (fun hc28=>?_)
   ·refine aiG fun _ qm=>adr S 1 [] [(2,.bool false)] fun ac S=>aiF<|qm _ _<|Vp.rt ?_
    refine aiH S Tryz.results251 ?_
    exact⟨aB (Vs hc4 kF hR (by rw[lX]; exact hc28)),S.E⟩
   ·refine wp_skip<|kH _ _<|Vp.region<|adr S 3 [.mem 0 0] [(3,.int .i64 x20.o)] fun ac S=>aiF<|dw _ _<|Vp.region<|adr S 2 [.re 31 (.int .i64 (IntKind.i64.wrap (((k:Nat):Int)+1))) (.int .i64 (((k+1):Nat):Int))] [(16,.int .i64 (((k+1):Nat):Int))] (hk:=⟨aiR (by omega),trivial⟩) fun ac S=>aiF ?_
    show ∃i',_∧_
    exact⟨((k+1),x20.o),⟨by omega,(by rw[←lX]; exact Qu kF hR (by rw[lX]; exact hc28)),(S.sub [(0,.slice (some ⟨b14,S9,none⟩) l.length cap),(2,.bool false),(3,.int .i64 x20.o),(14,.slice (some ⟨b14,S9,none⟩) l.length cap),(15,.int .i64 ((l.length:Nat):Int)),(16,.int .i64 (((k+1):Nat):Int))]).aK.uD 1⟩,by show _-_<_-_; omega⟩
  ·refine wp_exit<|kC _ _<|aiG fun _ nI=>adr S 1 [] [(2,.bool true)] fun ac S=>aiF<|nI _ _<|Vp.rt ?_
   refine aiH S Tryz.results251 ?_
   exact⟨aB (Vr hc4 (by have:=of_decide_eq_false gu; omega) hR),S.E⟩
theorem Yz(n:Int)(w:World) :
  Calls Tryz.prog 119 #[.int .i64 n] w fun e w'=>e = .returned (.bool (decide (1≤n)&&decide (n≤13)))∧w=w':=by
 skip
 refine aiK Tryz.func119 Tryz.ntmps119 fun ac S=>aiG fun _ aU=>adr S 1 [] [(2,.bool false)] fun ac S=>aiF<|aU _ _<|aiG fun _ fE=>adr S 7 [] [(2,.bool ((decide (1≤n))&&(decide (n≤13))))] fun ac S=>aiF<|fE _ _<|Vp.rt ?_
 refine aiH S Tryz.results119 ?_
 exact⟨rfl,rfl⟩
theorem EN(n:Int)(w:World) :
  Calls Tryz.prog 229 #[.int .i64 n] w fun e w'=>e = .returned (.bool (iJ n))∧w=w':=by
 skip
 refine aiK Tryz.func229 Tryz.ntmps229 fun ac S=>aiG fun _ aU=>adr S 1 [] [(2,.bool false)] fun ac S=>aiF<|aU _ _<|aiG fun _ fE=>adr S 7 [] [(2,.bool ((decide (1≤n))&&(decide (n≤3))))] fun ac S=>aiF<|fE _ _<|Vp.rt ?_
 refine aiH S Tryz.results229 ?_
 exact⟨rfl,rfl⟩
theorem YA(n:Int)(w:World) :
  Calls Tryz.prog 195 #[.int .i64 n] w fun e w'=>e = .returned (.bool (decide (1≤n)&&decide (n≤16384)))∧w=w':=by
 skip
 refine aiK Tryz.func195 Tryz.ntmps195 fun ac S=>aiG fun _ aU=>adr S 1 [] [(2,.bool false)] fun ac S=>aiF<|aU _ _<|aiG fun _ fE=>adr S 7 [] [(2,.bool ((decide (1≤n))&&(decide (n≤16384))))] fun ac S=>aiF<|fE _ _<|Vp.rt ?_
 refine aiH S Tryz.results195 ?_
 exact⟨rfl,rfl⟩
open Go.RowKit
variable{α:Type}
def nX(l s:List Int):Option Bool:=if s.all (fun x=>decide (0≤x)&&decide (x≤1048576))then some ((((l.length:Nat):Int)==0)||s.any (fun x=>decide (0<x)))else none
def l7(l:List Int):Bool:=l.all (fun x=>decide (0≤x)&&decide (x≤1048576))&&(((((((l.length:Nat):Int)==0)||l.any (fun x=>decide (0<x)))&&((Int.tmod ((l.length:Nat):Int) 2)==0))&&(decide (((l.length:Nat):Int)≤16))))
theorem IY(l:List Int):nX l (l.take 0)=some (((l.length:Nat):Int)==0):=by simp[nX]
theorem IZ{l:List Int}{k:Nat}{any:Bool}(hk:k<l.length)(hR:nX l (l.take k)=some any)(hb:((decide (l[k]<0))||(decide (1048576<l[k])))=false):nX l (l.take (k+1))=some (any||(decide (0<l[k]))):=by
 unfold nX at hR ⊢
 rw[List.take_succ_eq_append_getElem hk,List.all_append,List.any_append]
 simp only[Bool.or_eq_false_iff,decide_eq_false_iff_not]at hb
 split at hR
 ·rename_i h
  obtain rfl:=Option.some.inj hR
  rw[h]
  simp[show 0≤l[k] by omega,show l[k]≤1048576 by omega,Bool.or_assoc]
 ·cases hR
theorem MX{l:List Int}{k:Nat}{any:Bool}(hk:k<l.length)(hR:nX l (l.take k)=some any)(hb:((decide (l[k]<0))||(decide (1048576<l[k])))=true):false=l7 l:=by
 simp only[Bool.or_eq_true,decide_eq_true_eq]at hb
 unfold l7
 rw[vg hk (by simp; omega)]; rfl
theorem MZ{l:List Int}{k:Nat}{any:Bool}(hk:l.length≤k)(hR:nX l (l.take k)=some any):((any&&((Int.tmod ((l.length:Nat):Int) 2)==0))&&(decide (((l.length:Nat):Int)≤16)))=l7 l:=by
 unfold nX at hR
 rw[List.take_of_length_le hk]at hR
 split at hR
 ·rename_i h
  obtain rfl:=Option.some.inj hR
  unfold l7
  rw[h]; rfl
 ·cases hR
def dD(b:Bool)(n:Int):Value:=if b=true then .iface 111 (.agg #[.int .i64 n,.nilIface])else .nilIface
theorem Vu{b:Bool}{n:Int}{x:Operand}:∀w,(do eqGuard .neq 108 x (.const .nilIface) (dD b n) .nilIface; binOp .neq 108 (dD b n) .nilIface:Sem Value).run Tryz.prog w = .ok (.bool (!(!b))) w:=fun w=>by
 cases b<;>simp[dD,go_sem]
def jU:List (Bool×Int)→Value
 | [] => .nilIface
 | p::l=>if p.1=true then .iface 111 (.agg #[.int .i64 0,.iface 111 (.agg #[.int .i64 p.2,.nilIface])])else jU l
theorem Qy{w:World}{v:Value}{l:List Int}(h:dO zf w v l) :
  Calls Tryz.prog 196 #[v] w fun e w'=>e = .returned (.bool (l7 l))∧Ext w w':=by
 obtain⟨a,cap,rfl⟩:=(eG h).shape
 have hmax:l.length≤9223372036854775807:=(eG h).len
 refine aiK Tryz.func196 Tryz.ntmps196 fun ac S=>aiG fun _ aU=>adr S 1 [] [(2,.bool false)] fun ac S=>aiF<|aU _ _<|aiG fun _ fE=>adr S 4 [] [(3,.bool ((((l.length:Nat):Int))==0))] fun ac S=>aiF<|fE _ _<|wp_seq_k fun _ gW=>aiG fun _ lG=>adr S 3 [] [(9,.slice a l.length cap),(10,.int .i64 ((l.length:Nat):Int)),(11,.int .i64 0)] fun ac S=>aiF<|lG _ _<|wp_block ?_
 refine Vp.loop (ι:=Nat×Bool) (fun p a' w'=>p.1≤l.length∧(nX l (l.take p.1)=some p.2)∧Sx.St w a' w' 39 [(0,.slice a l.length cap),(2,.bool false),(3,.bool p.2),(9,.slice a l.length cap),(10,.int .i64 ((l.length:Nat):Int)),(11,.int .i64 ((p.1:Nat):Int))] [] []) (fun p=>l.length-p.1) (0,(((l.length:Nat):Int)==0)) ⟨Nat.zero_le _,IY l,(S.sub [(0,.slice a l.length cap),(2,.bool false),(3,.bool (((l.length:Nat):Int)==0)),(9,.slice a l.length cap),(10,.int .i64 ((l.length:Nat):Int)),(11,.int .i64 ((0:Nat):Int))]).aK⟩ ?_
 rintro⟨k,any⟩ ac u hI
 try dsimp only at hI
 obtain⟨hk,hR,S⟩:=hI
 refine aiG fun _ bV=>adr S 1 [] [(12,.bool (decide (((k:Nat):Int)<((l.length:Nat):Int))))] fun ac S=>aiF<|bV _ _<|wp_seq_k (fun _ iK=>?_)
 refine aiI S (fun kV=>?_) (fun kV=>?_)
 ·refine wp_skip<|iK _ _<|wp_seq_k fun _ dP=>wp_block<|aiG (fun _ gB=>?_)
  have nG:k<l.length:=by have:=of_decide_eq_true kV; omega
  obtain⟨b10,Vt,c12,hv,Dy,wH⟩:=Vp.aF (eG h) (fun _=>rfl) (k) nG
  simp only[Value.slice.injEq,true_and]at hv
  obtain⟨rfl,rfl⟩:=hv
  obtain⟨x16,pO⟩:∃z,l[k]=z:=⟨_,rfl⟩
  rw[pO]at wH
  have S:=S.view0 Dy wH
  refine adr S 3 [.idx k l.length,.mem 0 0] [(5,.int .i64 x16)] (hk:=⟨nG,trivial⟩) fun ac S=>aiF<|gB _ _<|wp_seq_k fun _ je=>aiG fun _ jf=>adr S 6 [] [(20,.bool ((decide (x16<0))||(decide (1048576<x16))))] fun ac S=>aiF (jf _ _ ?_)
  refine aiI S (fun rY=>?_) (fun rY=>?_)
  ·refine aiG fun _ jo=>adr S 1 [] [(2,.bool false)] fun ac S=>aiF<|jo _ _<|Vp.rt ?_
   refine aiH S Tryz.results196 ?_
   exact⟨aB (MX nG hR (by rw[pO]; exact rY)),S.E⟩
  ·refine wp_skip<|je _ _<|Vp.region<|adr S 6 [] [(3,.bool (any||(decide (0<x16))))] fun ac S=>aiF<|dP _ _<|Vp.region<|adr S 2 [.re 26 (.int .i64 (IntKind.i64.wrap (((k:Nat):Int)+1))) (.int .i64 (((k+1):Nat):Int))] [(11,.int .i64 (((k+1):Nat):Int))] (hk:=⟨aiR (by omega),trivial⟩) fun ac S=>aiF ?_
   show ∃i',_∧_
   exact⟨((k+1),any||(decide (0<x16))),⟨by omega,(by rw[←pO]; exact IZ nG hR (by rw[pO]; exact rY)),(S.sub [(0,.slice (some ⟨b10,Vt,none⟩) l.length cap),(2,.bool false),(3,.bool (any||(decide (0<x16)))),(9,.slice (some ⟨b10,Vt,none⟩) l.length cap),(10,.int .i64 ((l.length:Nat):Int)),(11,.int .i64 (((k+1):Nat):Int))]).aK⟩,by show _-_<_-_; omega⟩
 ·refine wp_exit<|gW _ _<|aiG fun _ jM=>adr S 13 [] [(2,.bool ((any&&(((Int.tmod ((l.length:Nat):Int) 2))==0))&&(decide (((l.length:Nat):Int)≤16))))] fun ac S=>aiF<|jM _ _<|Vp.rt ?_
  refine aiH S Tryz.results196 ?_
  exact⟨aB (MZ (by have:=of_decide_eq_false kV; omega) hR),S.E⟩
def aZ.valid(p:aZ):Bool:=(((((((decide (1≤p.width)&&decide (p.width≤16384))&&((((p.join)==1)||((p.join)==2))||((p.join)==3)))&&((((p.cap)==3)||((p.cap)==4))||((p.cap)==5)))&&(decide (256≤p.dU)))&&(decide (p.dU≤65536)))&&(l7 p.dash))&&(decide (0≤p.phase)))&&(decide (p.phase≤1048576))
def aZ.eq(p q:aZ):Bool:=((((((p.width)==q.width)&&((p.join)==q.join))&&((p.cap)==q.cap))&&((p.dU)==q.dU))&&((p.phase)==q.phase))&&(decide (p.dash=q.dash))
theorem Vw{w:World}{p:aZ}(h:p.ok w) :
  Calls Tryz.prog 155 #[p.v] w fun e w'=>e = .returned (.bool p.valid)∧Ext w w':=by
 skip
 refine aiK Tryz.func155 Tryz.ntmps155 fun ac S=>aiG fun _ aU=>aiJ S 1 p.cells fun ac u b2 E3 hb4 S=>adr S 1 [] [(2,.bool false)] fun ac S=>aiF<|aU _ _<|aiG fun _ bV=>adr S 14 [.mem 0 1,.mem 0 1,.mem 0 1] [(3,.bool ((((p.join)==1)||((p.join)==2))||((p.join)==3)))] fun ac S=>aiF<|bV _ _<|aiG fun _ iK=>adr S 14 [.mem 0 2,.mem 0 2,.mem 0 2] [(4,.bool ((((p.cap)==3)||((p.cap)==4))||((p.cap)==5)))] fun ac S=>aiF<|iK _ _<|aiG fun _ kC=>adr S 2 [.mem 0 0] [(32,.int .i64 p.width)] fun ac S=>ai1 S 33 (YA p.width _) fun ac S=>aiT S 32 [.mem 0 3,.mem 0 3,.mem 0 4,.mem 0 5,.mem 0 5] [(_,_,(((((decide (1≤p.width)&&decide (p.width≤16384))&&((((p.join)==1)||((p.join)==2))||((p.join)==3)))&&((((p.cap)==3)||((p.cap)==4))||((p.cap)==5)))&&(decide (256≤p.dU)))&&(decide (p.dU≤65536))),.bool (l7 p.dash))] [(2,.bool ((((((((decide (1≤p.width)&&decide (p.width≤16384))&&((((p.join)==1)||((p.join)==2))||((p.join)==3)))&&((((p.cap)==3)||((p.cap)==4))||((p.cap)==5)))&&(decide (256≤p.dU)))&&(decide (p.dU≤65536)))&&(l7 p.dash))&&(decide (0≤p.phase)))&&(decide (p.phase≤1048576))))] ⟨fun u hC g=>Qy (h.2.2.2.2.1.below (Ext.trans' S.E hC)),trivial⟩ fun ac u E8 S=>aiF<|kC _ _<|Vp.rt ?_
 refine aiH S Tryz.results155 ?_
 exact⟨rfl,S.E⟩
theorem wI{w:World}{p q:aZ}(h:p.ok w)(h':q.ok w) :
  Calls Tryz.prog 96 #[p.v,q.v] w fun e w'=>e = .returned (.bool (p.eq q))∧Ext w w':=by
 skip
 refine aiK Tryz.func96 Tryz.ntmps96 fun ac S=>aiG fun _ aU=>aiJ S 2 p.cells fun ac u b2 E3 hb4 S=>aiJ S 3 q.cells fun ac u b5 E6 hb7 S=>adr S 1 [] [(4,.bool false)] fun ac S=>aiF<|aU _ _<|aiG fun _ dP=>aiT S 41 [.mem 1 0,.mem 0 0,.mem 1 1,.mem 0 1,.mem 1 2,.mem 0 2,.mem 1 3,.mem 0 3,.mem 1 5,.mem 0 5,.mem 1 4,.mem 0 4] [(_,_,((((((p.width)==q.width)&&((p.join)==q.join))&&((p.cap)==q.cap))&&((p.dU)==q.dU))&&((p.phase)==q.phase)),.bool (decide (p.dash=q.dash)))] [(4,.bool (((((((p.width)==q.width)&&((p.join)==q.join))&&((p.cap)==q.cap))&&((p.dU)==q.dU))&&((p.phase)==q.phase))&&(decide (p.dash=q.dash))))] ⟨fun u hC g=>Vm (eG (h.2.2.2.2.1.below (Ext.trans' S.E hC))) (eG (h'.2.2.2.2.1.below (Ext.trans' S.E hC))),trivial⟩ fun ac u E9 S=>aiF<|dP _ _<|Vp.rt ?_
 refine aiH S Tryz.results96 ?_
 exact⟨rfl,S.E⟩
theorem Nc(n:Int)(w:World) :
  Calls Tryz.prog 112 #[.int .i64 n] w fun e w'=>e = .returned (.bool ((n==1)||(n==2)))∧w=w':=by
 skip
 refine aiK Tryz.func112 Tryz.ntmps112 fun ac S=>aiG fun _ aU=>adr S 1 [] [(2,.bool false)] fun ac S=>aiF<|aU _ _<|aiG fun _ fE=>adr S 7 [] [(2,.bool (((n)==1)||((n)==2)))] fun ac S=>aiF<|fE _ _<|Vp.rt ?_
 refine aiH S Tryz.results112 ?_
 exact⟨rfl,rfl⟩
theorem iZ(b:Bool)(n:Int)(w:World) :
  Calls Tryz.prog 114 #[.bool b,.int .i64 n] w fun e w'=>e = .returned (dD b n)∧w=w':=by
 skip
 refine aiK Tryz.func114 Tryz.ntmps114 fun ac S=>aiG fun _ aU=>adr S 1 [] [(4,.nilIface)] fun ac S=>aiF<|aU _ _<|wp_seq_k fun _ fE=>aiG fun _ gW=>adr S 2 [] [(6,.bool (!b))] fun ac S=>aiF (gW _ _ ?_)
 refine aiI S (fun hc4=>?_) (fun hc4=>?_)
 ·refine aiG fun _ bV=>adr S 1 [] [(4,.nilIface)] fun ac S=>aiF<|bV _ _<|Vp.rt ?_
  refine aiH S Tryz.results114 ?_
  obtain rfl:b=false:=by simpa using hc4
  exact⟨rfl,rfl⟩
 ·refine wp_skip<|fE _ _<|aiG fun _ iK=>adr S 4 [] [(4,.iface 111 (.agg #[.int .i64 n,.nilIface]))] fun ac S=>aiF<|iK _ _<|Vp.rt ?_
  refine aiH S Tryz.results114 ?_
  obtain rfl:b=true:=by simpa using hc4
  exact⟨rfl,rfl⟩
theorem first_any{w:World}{v:Value}{l:List (Bool×Int)}(h:aT 1 (fun p=>[dD p.1 p.2]) w v l) :
  Calls Tryz.prog 113 #[v] w fun e w'=>e = .returned (jU l)∧Ext w w':=by
 obtain⟨a,cap,rfl⟩:=h.shape
 have hmax:l.length≤9223372036854775807:=h.len
 refine aiK Tryz.func113 Tryz.ntmps113 fun ac S=>aiG fun _ aU=>adr S 1 [] [(2,.nilIface)] fun ac S=>aiF<|aU _ _<|wp_seq_k fun _ fE=>aiG fun _ gW=>adr S 3 [] [(5,.slice a l.length cap),(6,.int .i64 ((l.length:Nat):Int)),(7,.int .i64 0)] fun ac S=>aiF<|gW _ _<|wp_block ?_
 refine Vp.loop (ι:=Nat) (fun p a' w'=>p≤l.length∧(jU l=jU (l.drop p))∧Sx.St w a' w' 17 [(0,.slice a l.length cap),(2,.nilIface),(5,.slice a l.length cap),(6,.int .i64 ((l.length:Nat):Int)),(7,.int .i64 ((p:Nat):Int))] [] []) (fun p=>l.length-p) (0) ⟨Nat.zero_le _,rfl,(S.sub [(0,.slice a l.length cap),(2,.nilIface),(5,.slice a l.length cap),(6,.int .i64 ((l.length:Nat):Int)),(7,.int .i64 ((0:Nat):Int))]).aK⟩ ?_
 rintro k ac u hI
 try dsimp only at hI
 obtain⟨hk,hR,S⟩:=hI
 refine aiG fun _ lG=>adr S 1 [] [(8,.bool (decide (((k:Nat):Int)<((l.length:Nat):Int))))] fun ac S=>aiF<|lG _ _<|wp_seq_k (fun _ bV=>?_)
 refine aiI S (fun hc6=>?_) (fun hc6=>?_)
 ·refine wp_skip<|bV _ _<|wp_seq_k fun _ kC=>wp_block<|aiG (fun _ dP=>?_)
  have tN:k<l.length:=by have:=of_decide_eq_true hc6; omega
  obtain⟨b9,o10,c11,hv,hb16,EO⟩:=Vp.aF h (fun _=>rfl) (k) tN
  simp only[Value.slice.injEq,true_and]at hv
  obtain⟨rfl,rfl⟩:=hv
  obtain⟨x15,wJ⟩:∃z,l[k]=z:=⟨_,rfl⟩
  rw[wJ]at EO
  have S:=S.view0 hb16 EO
  refine adr S 3 [.idx k l.length,.mem 0 0] [(4,dD x15.1 x15.2)] (hk:=⟨tN,trivial⟩) fun ac S=>aiF<|dP _ _<|aiG fun _ ig=>adr S 2 [.cmp .neq 108 (.tmp 11) (.const .nilIface) (dD x15.1 x15.2) .nilIface (.bool (!(!x15.1)))] [(12,.bool (!(!x15.1)))] (hk:=⟨Vu,trivial⟩) fun ac S=>aiF (ig _ _ ?_)
  refine aiI S (fun hc18=>?_) (fun hc18=>?_)
  ·have hb:x15.1=true:=by simpa using hc18
   rw[show dD x15.1 x15.2 = .iface 111 (.agg #[.int .i64 x15.2,.nilIface])from if_pos hb]at S
   refine aiG fun _ jf=>adr S 4 [] [(2,.iface 111 (.agg #[.int .i64 0,.iface 111 (.agg #[.int .i64 x15.2,.nilIface])]))] fun ac S=>aiF<|jf _ _<|Vp.rt ?_
   refine aiH S Tryz.results113 ?_
   exact⟨by rw[hR,List.drop_eq_getElem_cons tN,wJ,jU,if_pos hb],S.E⟩
  ·refine wp_skip<|kC _ _<|Vp.region<|adr S 2 [.re 16 (.int .i64 (IntKind.i64.wrap (((k:Nat):Int)+1))) (.int .i64 (((k+1):Nat):Int))] [(7,.int .i64 (((k+1):Nat):Int))] (hk:=⟨aiR (by omega),trivial⟩) fun ac S=>aiF ?_
   show ∃i',_∧_
   exact⟨(k+1),⟨by omega,(by rw[hR,List.drop_eq_getElem_cons tN,wJ,jU,if_neg (by simpa using hc18)]),(S.sub [(0,.slice (some ⟨b9,o10,none⟩) l.length cap),(2,.nilIface),(5,.slice (some ⟨b9,o10,none⟩) l.length cap),(6,.int .i64 ((l.length:Nat):Int)),(7,.int .i64 (((k+1):Nat):Int))]).aK⟩,by show _-_<_-_; omega⟩
 ·refine wp_exit<|fE _ _<|aiG fun _ iU=>adr S 1 [] [(2,.nilIface)] fun ac S=>aiF<|iU _ _<|Vp.rt ?_
  refine aiH S Tryz.results113 ?_
  exact⟨by rw[hR,List.drop_eq_nil_of_le (by have:=of_decide_eq_false hc6; omega)]; rfl,S.E⟩
end Go.Proofs.YtfmkkemfhjkajaaGreatDoor
