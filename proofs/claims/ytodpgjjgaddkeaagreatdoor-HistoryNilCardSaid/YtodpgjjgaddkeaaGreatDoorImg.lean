/- slices.Equal of the rows that nodes hold. -/
import Derived.Test.YtodpgjjgaddkeaaGreatDoorPk12
set_option maxHeartbeats 1600000
set_option maxRecDepth 100000
set_option linter.unusedVariables false
set_option linter.unusedSimpArgs false
namespace Go.Proofs.YtodpgjjgaddkeaaGreatDoor
open _root_.Go.Proofs.Tryz
open Go.RowKit
variable{α:Type}
theorem aN{a b:Bool}(h:a=b):Ending.returned (.bool a) = .returned (.bool b):=by rw[h]
theorem mF [DecidableEq α]{l m:List α}(h:((l.length:Int) != (m.length:Int))=true):false=decide (l=m):=by
 have h1:l≠m:=fun e=>by subst e; simp at h
 simp[h1]
theorem lI{l m:List α}(h:((l.length:Int) != (m.length:Int))=false):l.length=m.length:=by simp at h; omega
theorem qN [DecidableEq α]{l m:List α}{k:Nat}(hk:l.length≤k)(h:l.length=m.length)(hR:l.take k=m.take k):true=decide (l=m):=by
 rw[aAh hk,aAh (by omega)]at hR; simp[hR]
theorem qM [DecidableEq α]{l m:List α}{k:Nat}(h1:k<l.length)(h2:k<m.length)(h:l[k]≠m[k]):false=decide (l=m):=by
 have h1:l≠m:=fun e=>by subst e; exact h rfl
 simp[h1]
theorem mG{l m:List α}{k:Nat}(h1:k<l.length)(h2:k<m.length)(hR:l.take k=m.take k)(h:l[k]=m[k]):l.take (k+1)=m.take (k+1):=by
 rw[aAz h1,aAz h2,hR,h]
theorem abI{x y:dL}(h:(!((x.verb==y.verb)&&((x.a.x==y.a.x)&&((x.a.y==y.a.y)&&((x.b.x==y.b.x)&&((x.b.y==y.b.y)&&((x.c.x==y.c.x)&&(x.c.y==y.c.y))))))))=false):x=y:=by
 obtain⟨v,⟨a,b⟩,⟨c,d⟩,⟨e,f⟩⟩:=x;obtain⟨v',⟨a',b'⟩,⟨c',d'⟩,⟨e',f'⟩⟩:=y;simp at h ⊢; omega
theorem FN{a b:UInt8}(h:(a.toNat:Int)=(b.toNat:Int)):a=b:=aBD.1 (by omega)
theorem Uz{x y:bG}(h:(!(((x.r.toNat:Int)==y.r.toNat)&&(((x.g.toNat:Int)==y.g.toNat)&&(((x.b.toNat:Int)==y.b.toNat)&&((x.a.toNat:Int)==y.a.toNat)))))=false):x=y:=by
 obtain⟨a,b,c,d⟩:=x;obtain⟨a',b',c',d'⟩:=y;simp only[aAT,azM,azI]at h;rw[FN h.1,FN h.2.1,FN h.2.2.1,FN h.2.2.2]
theorem XB{x y:dG}(h:(!((x.o==y.o)&&(((x.c.r.toNat:Int)==y.c.r.toNat)&&(((x.c.g.toNat:Int)==y.c.g.toNat)&&(((x.c.b.toNat:Int)==y.c.b.toNat)&&((x.c.a.toNat:Int)==y.c.a.toNat))))))=false):x=y:=by
 obtain⟨o,c⟩:=x;obtain⟨o',c'⟩:=y;simp only[aAT,azM,azI]at h;have:c=c':=Uz (by simp only[aAT,azM,azI]; exact h.2);rw[h.1,this]
theorem abO{x y:Int}(h:(x != y)=false):x=y:=by simpa using h
theorem Zj{w:World}{v u:Value}{l m:List dL}(h:aJ 7 dL.cells w v l)(h':aJ 7 dL.cells w u m) :
  Calls prog 182 #[v,u] w fun e w'=>e = .returned (.bool (l=m))∧Ext w w':=by
 obtain⟨a,cap,rfl⟩:=h.shape;obtain⟨d,cap',rfl⟩:=h'.shape;have hmax:l.length≤9223372036854775807:=h.len;refine ay3 func182 ntmps182 fun S=>ay0 S (((l.length:Int)) != (m.length:Int)) (fun hc4 S=>?_) (fun hc4 S=>?_)
 ·refine apB S (.z) (fun S=>?_);exact⟨aN (mF hc4),S.E⟩
 refine azm S (ι:=Nat) (fun p a' w'=>p≤l.length∧(l.take p=m.take p)∧Sx.St w a' w' 26 [(0,.slice a l.length cap),(1,.slice d m.length cap'),(4,.z),(12,.i l.length),(13,.i p)] [] []) (fun p=>l.length-p) (0) (fun S=>⟨azB _,rfl,S.uU⟩) ?_;rintro k ac u ig eU hI;try dsimp only at hI
 obtain⟨hk,hR,S⟩:=hI;refine azn S fun S=>ay0 S (decide ((k:Int)<(l.length:Int))) (fun fJ S=>?_) (fun fJ S=>?_)
 ·have tY:k<l.length:=by have:=azN fJ; omega
  obtain⟨b15,o16,rfl,x21,FP,UG,Nk⟩:=az2 h (fun _=>rfl) (k) tY;have S:=S.view0 UG Nk;have tZ:k<m.length:=by have:=lI hc4; have:=azN fJ; omega
  obtain⟨b23,o24,rfl,y29,hx27,UH,UJ⟩:=az2 h' (fun _=>rfl) (k) tZ;have S:=S.view0 UH UJ;refine azi S 9 [.idx k l.length,.mem 1 0,.idx k m.length,.mem 0 0,.cmp .neq 163 (.tmp 19) (.tmp 23) (.agg #[.i x21.verb,.i x21.a.x,.i x21.a.y,.i x21.b.x,.i x21.b.y,.i x21.c.x,.i x21.c.y]) (.agg #[.i y29.verb,.i y29.a.x,.i y29.a.y,.i y29.b.x,.i y29.b.y,.i y29.c.x,.i y29.c.y]) (.bool (!((x21.verb==y29.verb)&&((x21.a.x==y29.a.x)&&((x21.a.y==y29.a.y)&&((x21.b.x==y29.b.x)&&((x21.b.y==y29.b.y)&&((x21.c.x==y29.c.x)&&(x21.c.y==y29.c.y)))))))))] [] [(24,.bool (!((x21.verb==y29.verb)&&((x21.a.x==y29.a.x)&&((x21.a.y==y29.a.y)&&((x21.b.x==y29.b.x)&&((x21.b.y==y29.b.y)&&((x21.c.x==y29.c.x)&&(x21.c.y==y29.c.y)))))))))] trivial (hk:=⟨tY,tZ,aAt (fun _=>ahQ ..) (by kernel_rfl),trivial⟩) fun u yA S=>ay0 S (!((x21.verb==y29.verb)&&((x21.a.x==y29.a.x)&&((x21.a.y==y29.a.y)&&((x21.b.x==y29.b.x)&&((x21.b.y==y29.b.y)&&((x21.c.x==y29.c.x)&&(x21.c.y==y29.c.y)))))))) (fun hc31 S=>?_) (fun hc31 S=>?_)
  ·refine apB S (.z) (fun S=>?_);exact⟨aN (qM tY tZ (fun e=>by have hq:=hc31; rw[FP,hx27]at e; subst e; simp at hq)),S.E⟩
  refine adr S 2 [] [.re 25 (.i (IntKind.i64.wrap ((k:Int)+1))) (.i (k+1:Nat))] (hk:=⟨azj (by omega),trivial⟩) fun S=>azo S ig (fun S=>?_);exact eU _ _ (k+1) ⟨by omega,(mG tY tZ hR (by rw[FP,hx27]; exact abI hc31)),S.uU⟩ (by show _-_<_-_; omega)
 refine apB S (.bool true) (fun S=>?_);exact⟨aN (qN (by have:=azR fJ; omega) (lI hc4) hR),S.E⟩
theorem UK{w:World}{v u:Value}{l m:List dG}(h:aJ 5 dG.cells w v l)(h':aJ 5 dG.cells w u m) :
  Calls prog 183 #[v,u] w fun e w'=>e = .returned (.bool (l=m))∧Ext w w':=by
 obtain⟨a,cap,rfl⟩:=h.shape;obtain⟨d,cap',rfl⟩:=h'.shape;have hmax:l.length≤9223372036854775807:=h.len;refine ay3 func183 ntmps183 fun S=>ay0 S (((l.length:Int)) != (m.length:Int)) (fun hc4 S=>?_) (fun hc4 S=>?_)
 ·refine apB S (.z) (fun S=>?_);exact⟨aN (mF hc4),S.E⟩
 refine azm S (ι:=Nat) (fun p a' w'=>p≤l.length∧(l.take p=m.take p)∧Sx.St w a' w' 26 [(0,.slice a l.length cap),(1,.slice d m.length cap'),(4,.z),(12,.i l.length),(13,.i p)] [] []) (fun p=>l.length-p) (0) (fun S=>⟨azB _,rfl,S.uU⟩) ?_;rintro k ac u ig eU hI;try dsimp only at hI
 obtain⟨hk,hR,S⟩:=hI;refine azn S fun S=>ay0 S (decide ((k:Int)<(l.length:Int))) (fun fJ S=>?_) (fun fJ S=>?_)
 ·have tY:k<l.length:=by have:=azN fJ; omega
  obtain⟨b15,o16,rfl,x21,FP,UG,Nk⟩:=az2 h (fun _=>rfl) (k) tY;have S:=S.view0 UG Nk;have tZ:k<m.length:=by have:=lI hc4; have:=azN fJ; omega
  obtain⟨b23,o24,rfl,y29,hx27,UH,UJ⟩:=az2 h' (fun _=>rfl) (k) tZ;have S:=S.view0 UH UJ;refine azi S 9 [.idx k l.length,.mem 1 0,.idx k m.length,.mem 0 0,.cmp .neq 202 (.tmp 19) (.tmp 23) (.agg #[.i x21.o,.u (x21.c.r.toNat:Int),.u (x21.c.g.toNat:Int),.u (x21.c.b.toNat:Int),.u (x21.c.a.toNat:Int)]) (.agg #[.i y29.o,.u (y29.c.r.toNat:Int),.u (y29.c.g.toNat:Int),.u (y29.c.b.toNat:Int),.u (y29.c.a.toNat:Int)]) (.bool (!((x21.o==y29.o)&&(((x21.c.r.toNat:Int)==(y29.c.r.toNat:Int))&&(((x21.c.g.toNat:Int)==(y29.c.g.toNat:Int))&&(((x21.c.b.toNat:Int)==(y29.c.b.toNat:Int))&&((x21.c.a.toNat:Int)==(y29.c.a.toNat:Int))))))))] [] [(24,.bool (!((x21.o==y29.o)&&(((x21.c.r.toNat:Int)==(y29.c.r.toNat:Int))&&(((x21.c.g.toNat:Int)==(y29.c.g.toNat:Int))&&(((x21.c.b.toNat:Int)==(y29.c.b.toNat:Int))&&((x21.c.a.toNat:Int)==(y29.c.a.toNat:Int))))))))] trivial (hk:=⟨tY,tZ,aAt (fun _=>abJ ..) (by kernel_rfl),trivial⟩) fun u yA S=>ay0 S (!((x21.o==y29.o)&&(((x21.c.r.toNat:Int)==(y29.c.r.toNat:Int))&&(((x21.c.g.toNat:Int)==(y29.c.g.toNat:Int))&&(((x21.c.b.toNat:Int)==(y29.c.b.toNat:Int))&&((x21.c.a.toNat:Int)==(y29.c.a.toNat:Int))))))) (fun hc31 S=>?_) (fun hc31 S=>?_)
  ·refine apB S (.z) (fun S=>?_);exact⟨aN (qM tY tZ (fun e=>by have hq:=hc31; rw[FP,hx27]at e; subst e; simp at hq)),S.E⟩
  refine adr S 2 [] [.re 25 (.i (IntKind.i64.wrap ((k:Int)+1))) (.i (k+1:Nat))] (hk:=⟨azj (by omega),trivial⟩) fun S=>azo S ig (fun S=>?_);exact eU _ _ (k+1) ⟨by omega,(mG tY tZ hR (by rw[FP,hx27]; exact XB hc31)),S.uU⟩ (by show _-_<_-_; omega)
 refine apB S (.bool true) (fun S=>?_);exact⟨aN (qN (by have:=azR fJ; omega) (lI hc4) hR),S.E⟩
theorem Zk{w:World}{v u:Value}{l m:List bG}(h:aJ 4 bG.cells w v l)(h':aJ 4 bG.cells w u m) :
  Calls prog 185 #[v,u] w fun e w'=>e = .returned (.bool (l=m))∧Ext w w':=by
 obtain⟨a,cap,rfl⟩:=h.shape;obtain⟨d,cap',rfl⟩:=h'.shape;have hmax:l.length≤9223372036854775807:=h.len;refine ay3 func185 ntmps185 fun S=>ay0 S (((l.length:Int)) != (m.length:Int)) (fun hc4 S=>?_) (fun hc4 S=>?_)
 ·refine apB S (.z) (fun S=>?_);exact⟨aN (mF hc4),S.E⟩
 refine azm S (ι:=Nat) (fun p a' w'=>p≤l.length∧(l.take p=m.take p)∧Sx.St w a' w' 26 [(0,.slice a l.length cap),(1,.slice d m.length cap'),(4,.z),(12,.i l.length),(13,.i p)] [] []) (fun p=>l.length-p) (0) (fun S=>⟨azB _,rfl,S.uU⟩) ?_;rintro k ac u ig eU hI;try dsimp only at hI
 obtain⟨hk,hR,S⟩:=hI;refine azn S fun S=>ay0 S (decide ((k:Int)<(l.length:Int))) (fun fJ S=>?_) (fun fJ S=>?_)
 ·have tY:k<l.length:=by have:=azN fJ; omega
  obtain⟨b15,o16,rfl,x21,FP,UG,Nk⟩:=az2 h (fun _=>rfl) (k) tY;have S:=S.view0 UG Nk;have tZ:k<m.length:=by have:=lI hc4; have:=azN fJ; omega
  obtain⟨b23,o24,rfl,y29,hx27,UH,UJ⟩:=az2 h' (fun _=>rfl) (k) tZ;have S:=S.view0 UH UJ;refine azi S 9 [.idx k l.length,.mem 1 0,.idx k m.length,.mem 0 0,.cmp .neq 178 (.tmp 19) (.tmp 23) (.agg #[.u (x21.r.toNat:Int),.u (x21.g.toNat:Int),.u (x21.b.toNat:Int),.u (x21.a.toNat:Int)]) (.agg #[.u (y29.r.toNat:Int),.u (y29.g.toNat:Int),.u (y29.b.toNat:Int),.u (y29.a.toNat:Int)]) (.bool (!(((x21.r.toNat:Int)==(y29.r.toNat:Int))&&(((x21.g.toNat:Int)==(y29.g.toNat:Int))&&(((x21.b.toNat:Int)==(y29.b.toNat:Int))&&((x21.a.toNat:Int)==(y29.a.toNat:Int)))))))] [] [(24,.bool (!(((x21.r.toNat:Int)==(y29.r.toNat:Int))&&(((x21.g.toNat:Int)==(y29.g.toNat:Int))&&(((x21.b.toNat:Int)==(y29.b.toNat:Int))&&((x21.a.toNat:Int)==(y29.a.toNat:Int)))))))] trivial (hk:=⟨tY,tZ,aAt (fun _=>ahR ..) (by kernel_rfl),trivial⟩) fun u yA S=>ay0 S (!(((x21.r.toNat:Int)==(y29.r.toNat:Int))&&(((x21.g.toNat:Int)==(y29.g.toNat:Int))&&(((x21.b.toNat:Int)==(y29.b.toNat:Int))&&((x21.a.toNat:Int)==(y29.a.toNat:Int)))))) (fun hc31 S=>?_) (fun hc31 S=>?_)
  ·refine apB S (.z) (fun S=>?_);exact⟨aN (qM tY tZ (fun e=>by have hq:=hc31; rw[FP,hx27]at e; subst e; simp at hq)),S.E⟩
  refine adr S 2 [] [.re 25 (.i (IntKind.i64.wrap ((k:Int)+1))) (.i (k+1:Nat))] (hk:=⟨azj (by omega),trivial⟩) fun S=>azo S ig (fun S=>?_);exact eU _ _ (k+1) ⟨by omega,(mG tY tZ hR (by rw[FP,hx27]; exact Uz hc31)),S.uU⟩ (by show _-_<_-_; omega)
 refine apB S (.bool true) (fun S=>?_);exact⟨aN (qN (by have:=azR fJ; omega) (lI hc4) hR),S.E⟩
theorem Zl{w:World}{v u:Value}{l m:List Int}(h:aJ 1 (fun x=>[Ak x]) w v l)(h':aJ 1 (fun x=>[Ak x]) w u m) :
  Calls prog 184 #[v,u] w fun e w'=>e = .returned (.bool (l=m))∧Ext w w':=by
 obtain⟨a,cap,rfl⟩:=h.shape;obtain⟨d,cap',rfl⟩:=h'.shape;have hmax:l.length≤9223372036854775807:=h.len;refine ay3 func184 ntmps184 fun S=>ay0 S (((l.length:Int)) != (m.length:Int)) (fun hc4 S=>?_) (fun hc4 S=>?_)
 ·refine apB S (.z) (fun S=>?_);exact⟨aN (mF hc4),S.E⟩
 refine azm S (ι:=Nat) (fun p a' w'=>p≤l.length∧(l.take p=m.take p)∧Sx.St w a' w' 26 [(0,.slice a l.length cap),(1,.slice d m.length cap'),(4,.z),(12,.i l.length),(13,.i p)] [] []) (fun p=>l.length-p) (0) (fun S=>⟨azB _,rfl,S.uU⟩) ?_;rintro k ac u ig eU hI;try dsimp only at hI
 obtain⟨hk,hR,S⟩:=hI;refine azn S fun S=>ay0 S (decide ((k:Int)<(l.length:Int))) (fun fJ S=>?_) (fun fJ S=>?_)
 ·have tY:k<l.length:=by have:=azN fJ; omega
  obtain⟨b15,o16,rfl,x21,FP,UG,Nk⟩:=az2 h (fun _=>rfl) (k) tY;have S:=S.view0 UG Nk;have tZ:k<m.length:=by have:=lI hc4; have:=azN fJ; omega
  obtain⟨b23,o24,rfl,y29,hx27,UH,UJ⟩:=az2 h' (fun _=>rfl) (k) tZ;have S:=S.view0 UH UJ;refine azi S 9 [.idx k l.length,.mem 1 0,.idx k m.length,.mem 0 0] [] [(24,.bool ((x21) != y29))] trivial (hk:=⟨tY,tZ,trivial⟩) fun u yA S=>ay0 S ((x21) != y29) (fun hc31 S=>?_) (fun hc31 S=>?_)
  ·refine apB S (.z) (fun S=>?_);exact⟨aN (qM tY tZ (fun e=>by have hq:=hc31; rw[FP,hx27]at e; subst e; simp at hq)),S.E⟩
  refine adr S 2 [] [.re 25 (.i (IntKind.i64.wrap ((k:Int)+1))) (.i (k+1:Nat))] (hk:=⟨azj (by omega),trivial⟩) fun S=>azo S ig (fun S=>?_);exact eU _ _ (k+1) ⟨by omega,(mG tY tZ hR (by rw[FP,hx27]; exact abO hc31)),S.uU⟩ (by show _-_<_-_; omega)
 refine apB S (.bool true) (fun S=>?_);exact⟨aN (qN (by have:=azR fJ; omega) (lI hc4) hR),S.E⟩
open Go.RowKit
variable{α:Type}
theorem Zm(p:bG):(((min (p.r.toNat:Int) (p.a.toNat:Int))==(p.r.toNat:Int))&&(((min (p.g.toNat:Int) (p.a.toNat:Int))==(p.g.toNat:Int))&&(((min (p.b.toNat:Int) (p.a.toNat:Int))==(p.b.toNat:Int))&&((min (p.a.toNat:Int) (p.a.toNat:Int))==(p.a.toNat:Int)))))=p.valid:=by
 have h:∀x y:UInt8,((min (x.toNat:Int) (y.toNat:Int))==(x.toNat:Int))=decide (x≤y):=by
  intro x y; rw[aAM]; simp only[azI,azK,UInt8.le_iff_toNat_le]; omega
 rw[h,h,h,h]; unfold bG.valid; simp
theorem DC{l:List α}{k:Nat}{p:α→Bool}(hk:l.length≤k)(h:(l.take k).all p=true):l.all p=true:=by rwa [aAh hk]at h
theorem Nl{l:List α}{k:Nat}{p:α→Bool}(hk:k<l.length)(h:p l[k]=false):l.all p=false:=by
 rw[List.all_eq_false]; exact⟨l[k],azZ hk,by simp[h]⟩
theorem yB{l:List α}{k:Nat}{p:α→Bool}(hk:k<l.length)(hR:(l.take k).all p=true)(h:p l[k]=true):(l.take (k+1)).all p=true:=by
 rw[aAz hk,List.all_append,hR]; simp[h]
theorem Zn{a b:Int}(ha:side a=true)(hb:side b=true):IntKind.i64.wrap (a*b)=a*b:=by
 simp only[side,azM,azK]at ha hb;have h1:a*b≤4096*4096:=Int.le_trans (Int.mul_le_mul_of_nonneg_right ha.2 (by omega)) (Int.mul_le_mul_of_nonneg_left hb.2 (by omega));have h0:0≤a*b:=Int.mul_nonneg (by omega) (by omega);rw[aBX]; omega
theorem P9{m:dA}:((((!(side m.w))||(!(side m.h)))||(decide (65536<IntKind.i64.wrap (m.w*m.h))))||((m.l.length:Int) != IntKind.i64.wrap (m.w*m.h)))=((((!(side m.w))||(!(side m.h)))||(decide (65536<(m.w*m.h))))||((m.l.length:Int) != (m.w*m.h))):=by
 cases ha:side m.w<;>cases hb:side m.h<;>simp only[Bool.not_false,Bool.not_true,Bool.true_or,Bool.false_or,Bool.or_true];rw[Zn ha hb]
theorem ai0{m:dA}(h:((((!(side m.w))||(!(side m.h)))||(decide (65536<(m.w*m.h))))||((m.l.length:Int) != (m.w*m.h)))=true):false=m.valid:=by
 unfold dA.valid dA.size;revert h;cases side m.w<;>cases side m.h<;>simp;intro h h1 h2; omega
theorem afL{m:dA}(h:((((!(side m.w))||(!(side m.h)))||(decide (65536<(m.w*m.h))))||((m.l.length:Int) != (m.w*m.h)))=false):(!(!(m.l.all bG.valid)))=m.valid:=by
 unfold dA.valid dA.size;revert h;cases side m.w<;>cases side m.h<;>simp;intro h h1; rw[h1]; simp[h]
theorem ai1{m n:dA}:((m.w==n.w)&&(m.h==n.h)&&decide (m.l=n.l))=m.eq n:=by
 unfold dA.eq;rw[Bool.and_assoc];by_cases h:m.l=n.l<;>simp[h]
theorem Zo{l:List dG}(h:((decide ((l.length:Int)<1))||(decide (16<(l.length:Int))))=true):false=iq l:=by
 unfold iq;simp only[aBn,azK]at h;rcases h with h | h
 ·rw[aA7 (by omega)]; rfl
 rw[aA7 (p:=l.length≤16) (by omega)]; simp
theorem Qa{l:List dG}(h:((decide ((l.length:Int)<1))||(decide (16<(l.length:Int))))=false):iq l=gW 0 l:=by
 unfold iq;simp only[aAm,az7]at h;rw[aAN (p:=1≤l.length) (by omega),aAN (p:=l.length≤16) (by omega)]; rfl
theorem Zp{l:List dG}{k:Nat}{last:Int}(h:((decide ((l.length:Int)<1))||(decide (16<(l.length:Int))))=false)(hk:l.length≤k)(hR:gW 0 l=gW last (l.drop k)):true=iq l:=by
 rw[Qa h,hR,aAS hk]; rfl
theorem Zq{l:List dG}{k:Nat}{last:Int}(h:((decide ((l.length:Int)<1))||(decide (16<(l.length:Int))))=false)(hk:k<l.length)(hR:gW 0 l=gW last (l.drop k))(hb:((decide (l[k].o<last))||(decide (65536<l[k].o)))=true):false=iq l:=by
 rw[Qa h,hR,aAG hk,gW];simp only[aBn,azK]at hb;rcases hb with hb | hb
 ·rw[aA7 (by omega)]; rfl
 rw[aA7 (p:=l[k].o≤65536) (by omega)]; simp
theorem UL{l:List dG}{k:Nat}{last:Int}(hk:k<l.length)(hR:gW 0 l=gW last (l.drop k))(hb:((decide (l[k].o<last))||(decide (65536<l[k].o)))=false):gW 0 l=gW l[k].o (l.drop (k+1)):=by
 rw[hR,aAG hk,gW];simp only[aAm,az7]at hb;rw[aAN (p:=last≤l[k].o) (by omega),aAN (p:=l[k].o≤65536) (by omega)]; rfl
theorem uf{w:World}{b:Nat}(p:bG)(x:Int)(hx:Bx w b #[.u (p.r.toNat:Int),.u (p.g.toNat:Int),.u (p.b.toNat:Int),.u (p.a.toNat:Int)]) :
  Calls prog 307 #[.u x,.q b 0] w fun e w'=>e = .returned (.u (min x (p.a.toNat:Int)))∧w=w':=by
 skip;refine ay3 func307 ntmps307 (fun S=>?_);have S:=S.view0 hx.1 (hx.range 0 4 rfl);refine adr S 6 [] [.mem 0 3,.re 7 (.u (if (p.a.toNat:Int)<x then (p.a.toNat:Int)else x)) (.u (min x (p.a.toNat:Int)))] (hk:=⟨Sx.ai2,trivial⟩) fun S=>apB S (.u (min x (p.a.toNat:Int))) (fun S=>?_);exact⟨rfl,rfl⟩
theorem abY{w:World}{b:Nat}(p:bG)(hx:Bx w b #[.u (p.r.toNat:Int),.u (p.g.toNat:Int),.u (p.b.toNat:Int),.u (p.a.toNat:Int)]) :
  Calls prog 306 #[.agg #[.u (p.r.toNat:Int),.u (p.g.toNat:Int),.u (p.b.toNat:Int),.u (p.a.toNat:Int)],.func (.func 307) #[] #[.q b 0]] w fun e w'=>e = .returned (.agg #[.u (min (p.r.toNat:Int) (p.a.toNat:Int)),.u (min (p.g.toNat:Int) (p.a.toNat:Int)),.u (min (p.b.toNat:Int) (p.a.toNat:Int)),.u (min (p.a.toNat:Int) (p.a.toNat:Int))])∧Ext w w':=by
 skip;refine ay3 func306 ntmps306 (fun S=>?_);have S:=S.view0 hx.1 (hx.range 0 4 rfl);refine ay2 S fun u b2 E3 hb4 S=>ay2 S fun u b5 E6 hb7 S=>azi S 17 [.mem 1 0,.mem 1 1,.mem 1 2,.mem 1 3] [(_,_,true,.u (min (p.r.toNat:Int) (p.a.toNat:Int))),(_,_,true,.u (min (p.g.toNat:Int) (p.a.toNat:Int))),(_,_,true,.u (min (p.b.toNat:Int) (p.a.toNat:Int))),(_,_,true,.u (min (p.a.toNat:Int) (p.a.toNat:Int)))] [(21,.agg #[.u (min (p.r.toNat:Int) (p.a.toNat:Int)),.u (min (p.g.toNat:Int) (p.a.toNat:Int)),.u (min (p.b.toNat:Int) (p.a.toNat:Int)),.u (min (p.a.toNat:Int) (p.a.toNat:Int))])] ⟨fun u hC g=>azp (uf p (p.r.toNat:Int) (hx.ext (Ext.trans' S.E hC))),fun u hC g=>azp (uf p (p.g.toNat:Int) (hx.ext (Ext.trans' S.E hC))),fun u hC g=>azp (uf p (p.b.toNat:Int) (hx.ext (Ext.trans' S.E hC))),fun u hC g=>azp (uf p (p.a.toNat:Int) (hx.ext (Ext.trans' S.E hC))),trivial⟩ fun u E9 S=>ay4 S 0 rfl fun u C10 S=>azf S 0 rfl (v := .agg #[.u (min (p.r.toNat:Int) (p.a.toNat:Int)),.u (min (p.g.toNat:Int) (p.a.toNat:Int)),.u (min (p.b.toNat:Int) (p.a.toNat:Int)),.u (min (p.a.toNat:Int) (p.a.toNat:Int))]) (fun S=>?_);exact⟨rfl,S.E⟩
theorem UM(p:bG)(w:World) :
  Calls prog 277 #[.agg #[.u (p.r.toNat:Int),.u (p.g.toNat:Int),.u (p.b.toNat:Int),.u (p.a.toNat:Int)]] w fun e w'=>e = .returned (.agg #[.u (min (p.r.toNat:Int) (p.a.toNat:Int)),.u (min (p.g.toNat:Int) (p.a.toNat:Int)),.u (min (p.b.toNat:Int) (p.a.toNat:Int)),.u (min (p.a.toNat:Int) (p.a.toNat:Int))])∧Ext w w':=by
 skip;refine ay3 func277 ntmps277 fun S=>ay2 S fun u b2 E3 hb4 S=>ay2 S fun u b5 E6 hb7 S=>adr S 2 [] [.mem 1 0] fun S=>azd S (abY p (S.kG 1)) fun u E9 S=>ay4 S 0 rfl fun u C10 S=>azf S 0 rfl (v := .agg #[.u (min (p.r.toNat:Int) (p.a.toNat:Int)),.u (min (p.g.toNat:Int) (p.a.toNat:Int)),.u (min (p.b.toNat:Int) (p.a.toNat:Int)),.u (min (p.a.toNat:Int) (p.a.toNat:Int))]) (fun S=>?_);exact⟨rfl,S.E⟩
theorem Np(p:bG)(w:World) :
  Calls prog 237 #[.agg #[.u (p.r.toNat:Int),.u (p.g.toNat:Int),.u (p.b.toNat:Int),.u (p.a.toNat:Int)]] w fun e w'=>e = .returned (.bool p.valid)∧Ext w w':=by
 skip;refine ay3 func237 ntmps237 fun S=>ay2 S fun u b2 E3 hb4 S=>azi S 4 [.mem 0 0,.mem 0 0,.cmp .eql 178 (.tmp 4) (.tmp 5) (.agg #[.u (min (p.r.toNat:Int) (p.a.toNat:Int)),.u (min (p.g.toNat:Int) (p.a.toNat:Int)),.u (min (p.b.toNat:Int) (p.a.toNat:Int)),.u (min (p.a.toNat:Int) (p.a.toNat:Int))]) (.agg #[.u (p.r.toNat:Int),.u (p.g.toNat:Int),.u (p.b.toNat:Int),.u (p.a.toNat:Int)]) (.bool (((min (p.r.toNat:Int) (p.a.toNat:Int))==(p.r.toNat:Int))&&(((min (p.g.toNat:Int) (p.a.toNat:Int))==(p.g.toNat:Int))&&(((min (p.b.toNat:Int) (p.a.toNat:Int))==(p.b.toNat:Int))&&((min (p.a.toNat:Int) (p.a.toNat:Int))==(p.a.toNat:Int))))))] [(_,_,true,.agg #[.u (min (p.r.toNat:Int) (p.a.toNat:Int)),.u (min (p.g.toNat:Int) (p.a.toNat:Int)),.u (min (p.b.toNat:Int) (p.a.toNat:Int)),.u (min (p.a.toNat:Int) (p.a.toNat:Int))])] [(6,.bool (((min (p.r.toNat:Int) (p.a.toNat:Int))==(p.r.toNat:Int))&&(((min (p.g.toNat:Int) (p.a.toNat:Int))==(p.g.toNat:Int))&&(((min (p.b.toNat:Int) (p.a.toNat:Int))==(p.b.toNat:Int))&&((min (p.a.toNat:Int) (p.a.toNat:Int))==(p.a.toNat:Int))))))] ⟨fun u hC g=>UM p _,trivial⟩ (hk:=⟨aAt (fun _=>ahS ..) (by kernel_rfl),trivial⟩) fun u E6 S=>apB S (.bool (((min (p.r.toNat:Int) (p.a.toNat:Int))==(p.r.toNat:Int))&&(((min (p.g.toNat:Int) (p.a.toNat:Int))==(p.g.toNat:Int))&&(((min (p.b.toNat:Int) (p.a.toNat:Int))==(p.b.toNat:Int))&&((min (p.a.toNat:Int) (p.a.toNat:Int))==(p.a.toNat:Int)))))) (fun S=>?_);exact⟨aN (Zm p),S.E⟩
theorem UN(p:bG)(w:World) :
  Calls prog 236 #[.agg #[.u (p.r.toNat:Int),.u (p.g.toNat:Int),.u (p.b.toNat:Int),.u (p.a.toNat:Int)]] w fun e w'=>e = .returned (.bool (!p.valid))∧Ext w w':=by
 skip;refine ay3 func236 ntmps236 fun S=>ay2 S fun u b2 E3 hb4 S=>adr S 2 [] [.mem 0 0] fun S=>azd S (Np p _) fun u E6 S=>apB S (.bool (!p.valid)) (fun S=>?_);exact⟨rfl,S.E⟩
theorem Nq{w:World}{v:Value}{l:List bG}(h:aJ 4 bG.cells w v l) :
  Calls prog 276 #[v,.func (.func 236) #[] #[]] w fun e w'=>∃z,e = .returned (.i z)∧decide (0≤z) = !(l.all bG.valid)∧Ext w w':=by
 obtain⟨a,cap,rfl⟩:=h.shape;have hmax:l.length≤9223372036854775807:=h.len;refine ay3 func276 ntmps276 fun S=>azm S (ι:=Nat) (fun p a' w'=>p≤l.length∧((l.take p).all bG.valid=true)∧Sx.St w a' w' 19 [(0,.slice a l.length cap),(1,.func (.func 236) #[] #[]),(4,.i 0),(7,.i l.length),(8,.i p)] [] []) (fun p=>l.length-p) (0) (fun S=>⟨azB _,rfl,S.uU⟩) ?_;rintro k ac u ig eU hI;try dsimp only at hI
 obtain⟨hk,hR,S⟩:=hI;refine azn S fun S=>ay0 S (decide ((k:Int)<(l.length:Int))) (fun hc6 S=>?_) (fun hc6 S=>?_)
 ·have rZ:k<l.length:=by have:=azN hc6; omega
  obtain⟨b10,o11,rfl,x16,yT,vk,Nr⟩:=az2 h (fun _=>rfl) (k) rZ;have S:=S.view0 vk Nr;refine adr S 7 [] [.idx k l.length,.mem 0 0] (hk:=⟨rZ,trivial⟩) fun S=>azd S (UN x16 _) fun u yw S=>ay0 S (!x16.valid) (fun hc19 S=>?_) (fun hc19 S=>?_)
  ·refine apB S (.i k) (fun S=>?_);exact⟨_,rfl,by rw[Nl rZ (by rw[yT]; simpa using hc19)]; simp,S.E⟩
  refine adr S 2 [] [.re 18 (.i (IntKind.i64.wrap ((k:Int)+1))) (.i (k+1:Nat))] (hk:=⟨azj (by omega),trivial⟩) fun S=>azo S ig (fun S=>?_);exact eU _ _ (k+1) ⟨by omega,(yB rZ hR (by rw[yT]; simpa using hc19)),S.uU⟩ (by show _-_<_-_; omega)
 refine apB S (.i (-1)) (fun S=>?_);exact⟨_,rfl,by rw[DC (by have:=azR hc6; omega) hR]; rfl,S.E⟩
theorem Qb{w:World}{v:Value}{l:List bG}(h:aJ 4 bG.cells w v l) :
  Calls prog 235 #[v,.func (.func 236) #[] #[]] w fun e w'=>e = .returned (.bool (!(l.all bG.valid)))∧Ext w w':=by
 skip;refine ay3 func235 ntmps235 fun S=>aze S (Nq (h.below S.E)) ?_;rintro e u ⟨z,rfl,hz,E3⟩;refine⟨_,rfl,E3,fun S=>?_⟩;refine apB S (.bool (0≤z)) (fun S=>?_);exact⟨aN hz,S.E⟩
theorem Qc(n:Int)(w:World) :
  Calls prog 234 #[.i n] w fun e w'=>e = .returned (.bool (side n))∧w=w':=by
 skip;refine ay3 func234 ntmps234 fun S=>apB S (.bool ((decide (1≤n))&&(decide (n≤4096)))) (fun S=>?_);exact⟨rfl,rfl⟩
theorem Aq{w:World}{m:dA}(h:m.ok w) :
  Calls prog 195 #[m.v] w fun e w'=>e = .returned (.bool m.valid)∧Ext w w':=by
 obtain⟨a,cap,hs⟩:=h.2.2.shape;unfold dA.v;have hq:=h.2.2;rw[hs];rw[hs]at hq;refine ay3 func195 ntmps195 fun S=>ay2 S fun u b2 E3 hb4 S=>adr S 5 [] [.mem 0 0] fun S=>aAx S (Qc m.w _) fun S=>aAu S 27 [.mem 0 1,.mem 0 0,.mem 0 1,.mem 0 2,.mem 0 0,.mem 0 1] [(_,_,(!(!(side m.w))),.bool (side m.h))] [(34,.bool ((((!(side m.w))||(!(side m.h)))||(decide (65536<(IntKind.i64.wrap (m.w*m.h)))))||(((m.l.length:Int)) != (IntKind.i64.wrap (m.w*m.h)))))] ⟨fun u hC g=>azp (Qc m.h _),trivial⟩ fun u E8 S=>ay0 S ((((!(side m.w))||(!(side m.h)))||(decide (65536<(IntKind.i64.wrap (m.w*m.h)))))||(((m.l.length:Int)) != (IntKind.i64.wrap (m.w*m.h)))) (fun Jt S=>?_) (fun Jt S=>?_)
 ·refine apB S (.z) (fun S=>?_);exact⟨aN (ai0 (P9▸Jt)),S.E⟩
 refine adr S 2 [] [.mem 0 2] fun S=>azd S (Qb (hq.below S.E)) fun u qE S=>apB S (.bool (!(!(m.l.all bG.valid)))) (fun S=>?_);exact⟨aN (afL (P9▸Jt)),S.E⟩
theorem ug{w:World}{m n:dA}(h:m.ok w)(h':n.ok w) :
  Calls prog 141 #[m.v,n.v] w fun e w'=>e = .returned (.bool (m.eq n))∧Ext w w':=by
 skip;refine ay3 func141 ntmps141 fun S=>ay2 S fun u b2 E3 hb4 S=>ay2 S fun u b5 E6 hb7 S=>adr S 1 [] [] fun S=>aAu S 20 [.mem 1 0,.mem 0 0,.mem 1 1,.mem 0 1,.mem 1 2,.mem 0 2] [(_,_,(((m.w)==n.w)&&((m.h)==n.h)),.bool (m.l=n.l))] [(4,.bool ((((m.w)==n.w)&&((m.h)==n.h))&&(decide (m.l=n.l))))] ⟨fun u hC g=>Zk (h.2.2.below (Ext.trans' S.E hC)) (h'.2.2.below (Ext.trans' S.E hC)),trivial⟩ fun u E9 S=>apB S (.bool ((((m.w)==n.w)&&((m.h)==n.h))&&(decide (m.l=n.l)))) (fun S=>?_);exact⟨aN ai1,S.E⟩
theorem JA{w:World}{v:Value}{l:List dG}(h:aJ 5 dG.cells w v l) :
  Calls prog 331 #[v] w fun e w'=>e = .returned (.bool (iq l))∧Ext w w':=by
 obtain⟨a,cap,rfl⟩:=h.shape;have hmax:l.length≤9223372036854775807:=h.len;refine ay3 func331 ntmps331 fun S=>ay0 S ((decide ((l.length:Int)<1))||(decide (16<(l.length:Int)))) (fun hc4 S=>?_) (fun hc4 S=>?_)
 ·refine apB S (.z) (fun S=>?_);exact⟨aN (Zo hc4),S.E⟩
 refine azm S (ι:=Nat×Int) (fun p a' w'=>p.1≤l.length∧(gW 0 l=gW p.2 (l.drop p.1))∧Sx.St w a' w' 32 [(0,.slice a l.length cap),(2,.z),(3,.i p.2),(14,.slice a l.length cap),(15,.i l.length),(16,.i p.1)] [] []) (fun p=>l.length-p.1) (0,0) (fun S=>⟨azB _,rfl,S.uU⟩) ?_;rintro⟨k,last⟩ ac u ig eU hI;try dsimp only at hI
 obtain⟨hk,hR,S⟩:=hI;refine azn S fun S=>ay0 S (decide ((k:Int)<(l.length:Int))) (fun gU S=>?_) (fun gU S=>?_)
 ·have nV:k<l.length:=by have:=azN gU; omega
  obtain⟨b14,o15,rfl,x20,tX,vJ,MQ⟩:=az2 h (fun _=>rfl) (k) nV;have S:=S.view0 vJ MQ;refine adr S 2 [] [.idx k l.length,.mem 0 0] (hk:=⟨nV,trivial⟩) fun S=>ay2 S fun u b22 E23 ai3 S=>ay4 S 0 rfl fun u Zu S=>adr S 9 [] [.mem 0 0,.mem 0 0] fun S=>ay0 S ((decide (x20.o<last))||(decide (65536<x20.o))) (fun hc28 S=>?_) (fun hc28 S=>?_)
  ·refine apB S (.z) (fun S=>?_);exact⟨aN (Zq hc4 nV hR (by rw[tX]; exact hc28)),S.E⟩
  refine adr S 5 [] [.mem 0 0,.re 31 (.i (IntKind.i64.wrap ((k:Int)+1))) (.i (k+1:Nat))] (hk:=⟨azj (by omega),trivial⟩) fun S=>azo S ig (fun S=>?_);exact eU _ _ ((k+1),x20.o) ⟨by omega,(by rw[←tX]; exact UL nV hR (by rw[tX]; exact hc28)),(S.iH 1).uU⟩ (by show _-_<_-_; omega)
 refine apB S (.bool true) (fun S=>?_);exact⟨aN (Zp hc4 (by have:=azR gU; omega) hR),S.E⟩
theorem abZ(n:Int)(w:World) :
  Calls prog 193 #[.i n] w fun e w'=>e = .returned (.bool (decide (1≤n)&&decide (n≤13)))∧w=w':=by
 skip;refine ay3 func193 ntmps193 fun S=>apB S (.bool ((decide (1≤n))&&(decide (n≤13)))) (fun S=>?_);exact⟨rfl,rfl⟩
theorem FQ(n:Int)(w:World) :
  Calls prog 305 #[.i n] w fun e w'=>e = .returned (.bool (iC n))∧w=w':=by
 skip;refine ay3 func305 ntmps305 fun S=>apB S (.bool ((decide (1≤n))&&(decide (n≤3)))) (fun S=>?_);exact⟨rfl,rfl⟩
theorem ab1(n:Int)(w:World) :
  Calls prog 271 #[.i n] w fun e w'=>e = .returned (.bool (decide (1≤n)&&decide (n≤16384)))∧w=w':=by
 skip;refine ay3 func271 ntmps271 fun S=>apB S (.bool ((decide (1≤n))&&(decide (n≤16384)))) (fun S=>?_);exact⟨rfl,rfl⟩
open Go.RowKit
variable{α:Type}
def pG(l s:List Int):Option Bool:=if s.all (fun x=>decide (0≤x)&&decide (x≤1048576))then some (((l.length:Int)==0)||s.any (fun x=>decide (0<x)))else none
def rH(l:List Int):Bool:=l.all (fun x=>decide (0≤x)&&decide (x≤1048576))&&((((((l.length:Int)==0)||l.any (fun x=>decide (0<x)))&&((Int.tmod (l.length:Int) 2)==0))&&(decide ((l.length:Int)≤16))))
theorem Zv(l:List Int):pG l (l.take 0)=some ((l.length:Int)==0):=by simp[pG]
theorem Zw{l:List Int}{k:Nat}{any:Bool}(hk:k<l.length)(hR:pG l (l.take k)=some any)(hb:((decide (l[k]<0))||(decide (1048576<l[k])))=false):pG l (l.take (k+1))=some (any||(decide (0<l[k]))):=by
 unfold pG at hR ⊢;rw[aAz hk,List.all_append,List.any_append];simp only[aAm,az7]at hb;split at hR
 ·rename_i h;obtain rfl:=azF hR;rw[h];simp[show 0≤l[k] by omega,show l[k]≤1048576 by omega,Bool.or_assoc]
 cases hR
theorem ab2{l:List Int}{k:Nat}{any:Bool}(hk:k<l.length)(hR:pG l (l.take k)=some any)(hb:((decide (l[k]<0))||(decide (1048576<l[k])))=true):false=rH l:=by
 simp only[aBn,azK]at hb;unfold rH;rw[Nl hk (by simp; omega)]; rfl
theorem ab3{l:List Int}{k:Nat}{any:Bool}(hk:l.length≤k)(hR:pG l (l.take k)=some any):((any&&((Int.tmod (l.length:Int) 2)==0))&&(decide ((l.length:Int)≤16)))=rH l:=by
 unfold pG at hR;rw[aAh hk]at hR;split at hR
 ·rename_i h;obtain rfl:=azF hR;unfold rH;rw[h]; rfl
 cases hR
def dJ(b:Bool)(n:Int):Value:=if b=true then .iface 213 (.agg #[.i n,.nilIface])else .nilIface
theorem Zx{b:Bool}{n:Int}{x:Operand}:∀w,(do eqGuard .neq 210 x (.const .nilIface) (dJ b n) .nilIface; binOp .neq 210 (dJ b n) .nilIface:Sem Value).run prog w = .ok (.bool (!(!b))) w:=fun w=>by
 cases b<;>simp[dJ,go_sem]
def jZ:List (Bool×Int)→Value
 | [] => .nilIface
 | p::l=>if p.1=true then .iface 213 (.agg #[.i 0,.iface 213 (.agg #[.i p.2,.nilIface])])else jZ l
theorem UO{w:World}{v:Value}{l:List Int}(h:dB Ak w v l) :
  Calls prog 272 #[v] w fun e w'=>e = .returned (.bool (rH l))∧Ext w w':=by
 obtain⟨a,cap,rfl⟩:=(fE h).shape;have hmax:l.length≤9223372036854775807:=(fE h).len;refine ay3 func272 ntmps272 fun S=>azm S (ι:=Nat×Bool) (fun p a' w'=>p.1≤l.length∧(pG l (l.take p.1)=some p.2)∧Sx.St w a' w' 39 [(0,.slice a l.length cap),(2,.z),(3,.bool p.2),(9,.slice a l.length cap),(10,.i l.length),(11,.i p.1)] [] []) (fun p=>l.length-p.1) (0,((l.length:Int)==0)) (fun S=>⟨azB _,Zv l,S.uU⟩) ?_;rintro⟨k,any⟩ ac u ig eU hI;try dsimp only at hI
 obtain⟨hk,hR,S⟩:=hI;refine azn S fun S=>ay0 S (decide ((k:Int)<(l.length:Int))) (fun nH S=>?_) (fun nH S=>?_)
 ·have rZ:k<l.length:=by have:=azN nH; omega
  obtain⟨b10,o11,rfl,x16,yT,vk,Nr⟩:=az2 (fE h) (fun _=>rfl) (k) rZ;have S:=S.view0 vk Nr;refine adr S 9 [] [.idx k l.length,.mem 0 0] (hk:=⟨rZ,trivial⟩) fun S=>ay0 S ((decide (x16<0))||(decide (1048576<x16))) (fun qg S=>?_) (fun qg S=>?_)
  ·refine apB S (.z) (fun S=>?_);exact⟨aN (ab2 rZ hR (by rw[yT]; exact qg)),S.E⟩
  refine adr S 8 [] [.re 26 (.i (IntKind.i64.wrap ((k:Int)+1))) (.i (k+1:Nat))] (hk:=⟨azj (by omega),trivial⟩) fun S=>azo S ig (fun S=>?_);exact eU _ _ ((k+1),any||(decide (0<x16))) ⟨by omega,(by rw[←yT]; exact Zw rZ hR (by rw[yT]; exact qg)),S.uU⟩ (by show _-_<_-_; omega)
 refine apB S (.bool ((any&&(((Int.tmod (l.length:Int) 2))==0))&&(decide ((l.length:Int)≤16)))) (fun S=>?_);exact⟨aN (ab3 (by have:=azR nH; omega) hR),S.E⟩
def aS.valid(p:aS):Bool:=(((((((decide (1≤p.width)&&decide (p.width≤16384))&&((((p.join)==1)||((p.join)==2))||((p.join)==3)))&&((((p.cap)==3)||((p.cap)==4))||((p.cap)==5)))&&(decide (256≤p.eX)))&&(decide (p.eX≤65536)))&&(rH p.dash))&&(decide (0≤p.phase)))&&(decide (p.phase≤1048576))
def aS.eq(p q:aS):Bool:=((((((p.width)==q.width)&&((p.join)==q.join))&&((p.cap)==q.cap))&&((p.eX)==q.eX))&&((p.phase)==q.phase))&&(decide (p.dash=q.dash))
theorem Zy{w:World}{p:aS}(h:p.ok w) :
  Calls prog 232 #[p.v] w fun e w'=>e = .returned (.bool p.valid)∧Ext w w':=by
 skip;refine ay3 func232 ntmps232 fun S=>ay2 S fun u b2 E3 hb4 S=>adr S 31 [] [.mem 0 1,.mem 0 1,.mem 0 1,.mem 0 2,.mem 0 2,.mem 0 2,.mem 0 0] fun S=>aAx S (ab1 p.width _) fun S=>aAu S 32 [.mem 0 3,.mem 0 3,.mem 0 4,.mem 0 5,.mem 0 5] [(_,_,(((((decide (1≤p.width)&&decide (p.width≤16384))&&((((p.join)==1)||((p.join)==2))||((p.join)==3)))&&((((p.cap)==3)||((p.cap)==4))||((p.cap)==5)))&&(decide (256≤p.eX)))&&(decide (p.eX≤65536))),.bool (rH p.dash))] [(2,.bool ((((((((decide (1≤p.width)&&decide (p.width≤16384))&&((((p.join)==1)||((p.join)==2))||((p.join)==3)))&&((((p.cap)==3)||((p.cap)==4))||((p.cap)==5)))&&(decide (256≤p.eX)))&&(decide (p.eX≤65536)))&&(rH p.dash))&&(decide (0≤p.phase)))&&(decide (p.phase≤1048576))))] ⟨fun u hC g=>UO (h.2.2.2.2.1.below (Ext.trans' S.E hC)),trivial⟩ fun u E8 S=>apB S (.bool ((((((((decide (1≤p.width)&&decide (p.width≤16384))&&((((p.join)==1)||((p.join)==2))||((p.join)==3)))&&((((p.cap)==3)||((p.cap)==4))||((p.cap)==5)))&&(decide (256≤p.eX)))&&(decide (p.eX≤65536)))&&(rH p.dash))&&(decide (0≤p.phase)))&&(decide (p.phase≤1048576)))) (fun S=>?_);exact⟨rfl,S.E⟩
theorem vM{w:World}{p q:aS}(h:p.ok w)(h':q.ok w) :
  Calls prog 140 #[p.v,q.v] w fun e w'=>e = .returned (.bool (p.eq q))∧Ext w w':=by
 skip;refine ay3 func140 ntmps140 fun S=>ay2 S fun u b2 E3 hb4 S=>ay2 S fun u b5 E6 hb7 S=>adr S 1 [] [] fun S=>aAu S 41 [.mem 1 0,.mem 0 0,.mem 1 1,.mem 0 1,.mem 1 2,.mem 0 2,.mem 1 3,.mem 0 3,.mem 1 5,.mem 0 5,.mem 1 4,.mem 0 4] [(_,_,((((((p.width)==q.width)&&((p.join)==q.join))&&((p.cap)==q.cap))&&((p.eX)==q.eX))&&((p.phase)==q.phase)),.bool (p.dash=q.dash))] [(4,.bool (((((((p.width)==q.width)&&((p.join)==q.join))&&((p.cap)==q.cap))&&((p.eX)==q.eX))&&((p.phase)==q.phase))&&(decide (p.dash=q.dash))))] ⟨fun u hC g=>Zl (fE (h.2.2.2.2.1.below (Ext.trans' S.E hC))) (fE (h'.2.2.2.2.1.below (Ext.trans' S.E hC))),trivial⟩ fun u E9 S=>apB S (.bool (((((((p.width)==q.width)&&((p.join)==q.join))&&((p.cap)==q.cap))&&((p.eX)==q.eX))&&((p.phase)==q.phase))&&(decide (p.dash=q.dash)))) (fun S=>?_);exact⟨rfl,S.E⟩
theorem Qd(n:Int)(w:World) :
  Calls prog 186 #[.i n] w fun e w'=>e = .returned (.bool ((n==1)||(n==2)))∧w=w':=by
 skip;refine ay3 func186 ntmps186 fun S=>apB S (.bool (((n)==1)||((n)==2))) (fun S=>?_);exact⟨rfl,rfl⟩
theorem iV(b:Bool)(n:Int)(w:World) :
  Calls prog 188 #[.bool b,.i n] w fun e w'=>e = .returned (dJ b n)∧w=w':=by
 skip;refine ay3 func188 ntmps188 fun S=>ay0 S (!b) (fun hc4 S=>?_) (fun hc4 S=>?_)
 ·refine apB S (.nilIface) (fun S=>?_);obtain rfl:b=false:=by simpa using hc4
  exact⟨rfl,rfl⟩
 refine apB S (.iface 213 (.agg #[.i n,.nilIface])) (fun S=>?_);obtain rfl:b=true:=by simpa using hc4
 exact⟨rfl,rfl⟩
theorem first_any{w:World}{v:Value}{l:List (Bool×Int)}(h:aJ 1 (fun p=>[dJ p.1 p.2]) w v l) :
  Calls prog 187 #[v] w fun e w'=>e = .returned (jZ l)∧Ext w w':=by
 obtain⟨a,cap,rfl⟩:=h.shape;have hmax:l.length≤9223372036854775807:=h.len;refine ay3 func187 ntmps187 fun S=>azm S (ι:=Nat) (fun p a' w'=>p≤l.length∧(jZ l=jZ (l.drop p))∧Sx.St w a' w' 17 [(0,.slice a l.length cap),(2,.nilIface),(5,.slice a l.length cap),(6,.i l.length),(7,.i p)] [] []) (fun p=>l.length-p) (0) (fun S=>⟨azB _,rfl,S.uU⟩) ?_;rintro k ac u ig eU hI;try dsimp only at hI
 obtain⟨hk,hR,S⟩:=hI;refine azn S fun S=>ay0 S (decide ((k:Int)<(l.length:Int))) (fun hc6 S=>?_) (fun hc6 S=>?_)
 ·have fZ:k<l.length:=by have:=azN hc6; omega
  obtain⟨b9,o10,rfl,x15,jy,hb16,uh⟩:=az2 h (fun _=>rfl) (k) fZ;have S:=S.view0 hb16 uh;refine adr S 5 [] [.idx k l.length,.mem 0 0,.cmp .neq 210 (.tmp 11) (.const .nilIface) (dJ x15.1 x15.2) .nilIface (.bool (!(!x15.1)))] (hk:=⟨fZ,Zx,trivial⟩) fun S=>ay0 S (!(!x15.1)) (fun hc18 S=>?_) (fun hc18 S=>?_)
  ·have hb:x15.1=true:=by simpa using hc18
   rw[show dJ x15.1 x15.2 = .iface 213 (.agg #[.i x15.2,.nilIface])from azv hb]at S;try rw[show dJ x15.1 x15.2 = .iface 213 (.agg #[.i x15.2,.nilIface])from azv hb]
   refine apB S (.iface 213 (.agg #[.i 0,.iface 213 (.agg #[.i x15.2,.nilIface])])) (fun S=>?_);exact⟨by rw[hR,aAG fZ,jy,jZ,azv hb],S.E⟩
  refine adr S 2 [] [.re 16 (.i (IntKind.i64.wrap ((k:Int)+1))) (.i (k+1:Nat))] (hk:=⟨azj (by omega),trivial⟩) fun S=>azo S ig (fun S=>?_);exact eU _ _ (k+1) ⟨by omega,(by rw[hR,aAG fZ,jy,jZ,azu (by simpa using hc18)]),S.uU⟩ (by show _-_<_-_; omega)
 refine apB S (.nilIface) (fun S=>?_);exact⟨by rw[hR,aAS (by have:=azR hc6; omega)]; rfl,S.E⟩
end Go.Proofs.YtodpgjjgaddkeaaGreatDoor
