/- slices.Equal of the rows that nodes hold. -/
import Derived.Test.YtodpgjjgaddkeaaGreatDoorPk12
set_option maxHeartbeats 1600000
set_option maxRecDepth 100000
set_option linter.unusedVariables false
set_option linter.unusedSimpArgs false
namespace Go.Proofs.YtodpgjjgaddkeaaGreatDoor
open _root_.Go.Proofs.Tryz
open Go.RowKit
variable{α:Type}
theorem aN{a b:Bool}(h:a=b):Ending.returned (.bool a) = .returned (.bool b):=by rw[h]
theorem mJ [DecidableEq α]{l m:List α}(h:((l.length:Int) != (m.length:Int))=true):false=decide (l=m):=by
 have h1:l≠m:=fun e=>by subst e; simp at h
 simp[h1]
theorem lF{l m:List α}(h:((l.length:Int) != (m.length:Int))=false):l.length=m.length:=by simp at h; omega
theorem qV [DecidableEq α]{l m:List α}{k:Nat}(hk:l.length≤k)(h:l.length=m.length)(hR:l.take k=m.take k):true=decide (l=m):=by
 rw[aAp hk,aAp (by omega)]at hR; simp[hR]
theorem qW [DecidableEq α]{l m:List α}{k:Nat}(h1:k<l.length)(h2:k<m.length)(h:l[k]≠m[k]):false=decide (l=m):=by
 have h1:l≠m:=fun e=>by subst e; exact h rfl
 simp[h1]
theorem mM{l m:List α}{k:Nat}(h1:k<l.length)(h2:k<m.length)(hR:l.take k=m.take k)(h:l[k]=m[k]):l.take (k+1)=m.take (k+1):=by
 rw[aAJ h1,aAJ h2,hR,h]
theorem abR{x y:dM}(h:(!((x.verb==y.verb)&&((x.a.x==y.a.x)&&((x.a.y==y.a.y)&&((x.b.x==y.b.x)&&((x.b.y==y.b.y)&&((x.c.x==y.c.x)&&(x.c.y==y.c.y))))))))=false):x=y:=by
 obtain⟨v,⟨a,b⟩,⟨c,d⟩,⟨e,f⟩⟩:=x;obtain⟨v',⟨a',b'⟩,⟨c',d'⟩,⟨e',f'⟩⟩:=y;simp at h ⊢; omega
theorem FZ{a b:UInt8}(h:(a.toNat:Int)=(b.toNat:Int)):a=b:=aBO.1 (by omega)
theorem UK{x y:bC}(h:(!(((x.r.toNat:Int)==y.r.toNat)&&(((x.g.toNat:Int)==y.g.toNat)&&(((x.b.toNat:Int)==y.b.toNat)&&((x.a.toNat:Int)==y.a.toNat)))))=false):x=y:=by
 obtain⟨a,b,c,d⟩:=x;obtain⟨a',b',c',d'⟩:=y;simp only[aA3,azY,azU]at h;rw[FZ h.1,FZ h.2.1,FZ h.2.2.1,FZ h.2.2.2]
theorem XL{x y:dH}(h:(!((x.o==y.o)&&(((x.c.r.toNat:Int)==y.c.r.toNat)&&(((x.c.g.toNat:Int)==y.c.g.toNat)&&(((x.c.b.toNat:Int)==y.c.b.toNat)&&((x.c.a.toNat:Int)==y.c.a.toNat))))))=false):x=y:=by
 obtain⟨o,c⟩:=x;obtain⟨o',c'⟩:=y;simp only[aA3,azY,azU]at h;have:c=c':=UK (by simp only[aA3,azY,azU]; exact h.2);rw[h.1,this]
theorem abS{x y:Int}(h:(x != y)=false):x=y:=by simpa using h
theorem Zl{w:World}{v u:Value}{l m:List dM}(h:aI 7 dM.cells w v l)(h':aI 7 dM.cells w u m) :
  Calls prog 182 #[v,u] w fun e w'=>e = .returned (.bool (l=m))∧Ext w w':=by
 obtain⟨a,cap,rfl⟩:=h.shape;obtain⟨d,cap',rfl⟩:=h'.shape;have hmax:l.length≤9223372036854775807:=h.len;refine aze func182 ntmps182 fun S=>azb S (((l.length:Int)) != (m.length:Int)) (fun hc4 S=>?_) (fun hc4 S=>?_)
 ·refine ay9 S (.z) (fun S=>?_);exact⟨aN (mJ hc4),S.E⟩
 refine azw S (ι:=Nat) (fun p a' w'=>p≤l.length∧(l.take p=m.take p)∧Sx.St w a' w' 26 [(0,.slice a l.length cap),(1,.slice d m.length cap'),(4,.z),(12,.i l.length),(13,.i p)] [] []) (fun p=>l.length-p) (0) (fun S=>⟨azQ _,rfl,S.sN⟩) ?_;rintro k ac u gW eH hI;try dsimp only at hI
 obtain⟨hk,hR,S⟩:=hI;refine azx S fun S=>azb S (decide ((k:Int)<(l.length:Int))) (fun fK S=>?_) (fun fK S=>?_)
 ·have uq:k<l.length:=by have:=azZ fK; omega
  obtain⟨b15,o16,rfl,x21,Gf,P8,MW⟩:=aAe h (fun _=>rfl) (k) uq;have S:=S.view0 P8 MW;have uw:k<m.length:=by have:=lF hc4; have:=azZ fK; omega
  obtain⟨b23,o24,rfl,y29,hx27,UL,UM⟩:=aAe h' (fun _=>rfl) (k) uw;have S:=S.view0 UL UM;refine azs S 9 [.idx k l.length,.mem 1 0,.idx k m.length,.mem 0 0,.cmp .neq 163 (.tmp 19) (.tmp 23) (.agg #[.i x21.verb,.i x21.a.x,.i x21.a.y,.i x21.b.x,.i x21.b.y,.i x21.c.x,.i x21.c.y]) (.agg #[.i y29.verb,.i y29.a.x,.i y29.a.y,.i y29.b.x,.i y29.b.y,.i y29.c.x,.i y29.c.y]) (.bool (!((x21.verb==y29.verb)&&((x21.a.x==y29.a.x)&&((x21.a.y==y29.a.y)&&((x21.b.x==y29.b.x)&&((x21.b.y==y29.b.y)&&((x21.c.x==y29.c.x)&&(x21.c.y==y29.c.y)))))))))] [] [(24,.bool (!((x21.verb==y29.verb)&&((x21.a.x==y29.a.x)&&((x21.a.y==y29.a.y)&&((x21.b.x==y29.b.x)&&((x21.b.y==y29.b.y)&&((x21.c.x==y29.c.x)&&(x21.c.y==y29.c.y)))))))))] trivial (hk:=⟨uq,uw,azD (fun _=>ah3 ..) (by kernel_rfl),trivial⟩) fun u yG S=>azb S (!((x21.verb==y29.verb)&&((x21.a.x==y29.a.x)&&((x21.a.y==y29.a.y)&&((x21.b.x==y29.b.x)&&((x21.b.y==y29.b.y)&&((x21.c.x==y29.c.x)&&(x21.c.y==y29.c.y)))))))) (fun hc31 S=>?_) (fun hc31 S=>?_)
  ·refine ay9 S (.z) (fun S=>?_);exact⟨aN (qW uq uw (fun e=>by have hq:=hc31; rw[Gf,hx27]at e; subst e; simp at hq)),S.E⟩
  refine adr S 2 [] [.re 25 (.i (IntKind.i64.wrap ((k:Int)+1))) (.i (k+1:Nat))] (hk:=⟨azt (by omega),trivial⟩) fun S=>azy S gW (fun S=>?_);exact eH _ _ (k+1) ⟨by omega,(mM uq uw hR (by rw[Gf,hx27]; exact abR hc31)),S.sN⟩ (by show _-_<_-_; omega)
 refine ay9 S (.bool true) (fun S=>?_);exact⟨aN (qV (by have:=az4 fK; omega) (lF hc4) hR),S.E⟩
theorem UN{w:World}{v u:Value}{l m:List dH}(h:aI 5 dH.cells w v l)(h':aI 5 dH.cells w u m) :
  Calls prog 183 #[v,u] w fun e w'=>e = .returned (.bool (l=m))∧Ext w w':=by
 obtain⟨a,cap,rfl⟩:=h.shape;obtain⟨d,cap',rfl⟩:=h'.shape;have hmax:l.length≤9223372036854775807:=h.len;refine aze func183 ntmps183 fun S=>azb S (((l.length:Int)) != (m.length:Int)) (fun hc4 S=>?_) (fun hc4 S=>?_)
 ·refine ay9 S (.z) (fun S=>?_);exact⟨aN (mJ hc4),S.E⟩
 refine azw S (ι:=Nat) (fun p a' w'=>p≤l.length∧(l.take p=m.take p)∧Sx.St w a' w' 26 [(0,.slice a l.length cap),(1,.slice d m.length cap'),(4,.z),(12,.i l.length),(13,.i p)] [] []) (fun p=>l.length-p) (0) (fun S=>⟨azQ _,rfl,S.sN⟩) ?_;rintro k ac u gW eH hI;try dsimp only at hI
 obtain⟨hk,hR,S⟩:=hI;refine azx S fun S=>azb S (decide ((k:Int)<(l.length:Int))) (fun fK S=>?_) (fun fK S=>?_)
 ·have uq:k<l.length:=by have:=azZ fK; omega
  obtain⟨b15,o16,rfl,x21,Gf,P8,MW⟩:=aAe h (fun _=>rfl) (k) uq;have S:=S.view0 P8 MW;have uw:k<m.length:=by have:=lF hc4; have:=azZ fK; omega
  obtain⟨b23,o24,rfl,y29,hx27,UL,UM⟩:=aAe h' (fun _=>rfl) (k) uw;have S:=S.view0 UL UM;refine azs S 9 [.idx k l.length,.mem 1 0,.idx k m.length,.mem 0 0,.cmp .neq 202 (.tmp 19) (.tmp 23) (.agg #[.i x21.o,.u (x21.c.r.toNat:Int),.u (x21.c.g.toNat:Int),.u (x21.c.b.toNat:Int),.u (x21.c.a.toNat:Int)]) (.agg #[.i y29.o,.u (y29.c.r.toNat:Int),.u (y29.c.g.toNat:Int),.u (y29.c.b.toNat:Int),.u (y29.c.a.toNat:Int)]) (.bool (!((x21.o==y29.o)&&(((x21.c.r.toNat:Int)==(y29.c.r.toNat:Int))&&(((x21.c.g.toNat:Int)==(y29.c.g.toNat:Int))&&(((x21.c.b.toNat:Int)==(y29.c.b.toNat:Int))&&((x21.c.a.toNat:Int)==(y29.c.a.toNat:Int))))))))] [] [(24,.bool (!((x21.o==y29.o)&&(((x21.c.r.toNat:Int)==(y29.c.r.toNat:Int))&&(((x21.c.g.toNat:Int)==(y29.c.g.toNat:Int))&&(((x21.c.b.toNat:Int)==(y29.c.b.toNat:Int))&&((x21.c.a.toNat:Int)==(y29.c.a.toNat:Int))))))))] trivial (hk:=⟨uq,uw,azD (fun _=>abT ..) (by kernel_rfl),trivial⟩) fun u yG S=>azb S (!((x21.o==y29.o)&&(((x21.c.r.toNat:Int)==(y29.c.r.toNat:Int))&&(((x21.c.g.toNat:Int)==(y29.c.g.toNat:Int))&&(((x21.c.b.toNat:Int)==(y29.c.b.toNat:Int))&&((x21.c.a.toNat:Int)==(y29.c.a.toNat:Int))))))) (fun hc31 S=>?_) (fun hc31 S=>?_)
  ·refine ay9 S (.z) (fun S=>?_);exact⟨aN (qW uq uw (fun e=>by have hq:=hc31; rw[Gf,hx27]at e; subst e; simp at hq)),S.E⟩
  refine adr S 2 [] [.re 25 (.i (IntKind.i64.wrap ((k:Int)+1))) (.i (k+1:Nat))] (hk:=⟨azt (by omega),trivial⟩) fun S=>azy S gW (fun S=>?_);exact eH _ _ (k+1) ⟨by omega,(mM uq uw hR (by rw[Gf,hx27]; exact XL hc31)),S.sN⟩ (by show _-_<_-_; omega)
 refine ay9 S (.bool true) (fun S=>?_);exact⟨aN (qV (by have:=az4 fK; omega) (lF hc4) hR),S.E⟩
theorem Zm{w:World}{v u:Value}{l m:List bC}(h:aI 4 bC.cells w v l)(h':aI 4 bC.cells w u m) :
  Calls prog 185 #[v,u] w fun e w'=>e = .returned (.bool (l=m))∧Ext w w':=by
 obtain⟨a,cap,rfl⟩:=h.shape;obtain⟨d,cap',rfl⟩:=h'.shape;have hmax:l.length≤9223372036854775807:=h.len;refine aze func185 ntmps185 fun S=>azb S (((l.length:Int)) != (m.length:Int)) (fun hc4 S=>?_) (fun hc4 S=>?_)
 ·refine ay9 S (.z) (fun S=>?_);exact⟨aN (mJ hc4),S.E⟩
 refine azw S (ι:=Nat) (fun p a' w'=>p≤l.length∧(l.take p=m.take p)∧Sx.St w a' w' 26 [(0,.slice a l.length cap),(1,.slice d m.length cap'),(4,.z),(12,.i l.length),(13,.i p)] [] []) (fun p=>l.length-p) (0) (fun S=>⟨azQ _,rfl,S.sN⟩) ?_;rintro k ac u gW eH hI;try dsimp only at hI
 obtain⟨hk,hR,S⟩:=hI;refine azx S fun S=>azb S (decide ((k:Int)<(l.length:Int))) (fun fK S=>?_) (fun fK S=>?_)
 ·have uq:k<l.length:=by have:=azZ fK; omega
  obtain⟨b15,o16,rfl,x21,Gf,P8,MW⟩:=aAe h (fun _=>rfl) (k) uq;have S:=S.view0 P8 MW;have uw:k<m.length:=by have:=lF hc4; have:=azZ fK; omega
  obtain⟨b23,o24,rfl,y29,hx27,UL,UM⟩:=aAe h' (fun _=>rfl) (k) uw;have S:=S.view0 UL UM;refine azs S 9 [.idx k l.length,.mem 1 0,.idx k m.length,.mem 0 0,.cmp .neq 178 (.tmp 19) (.tmp 23) (.agg #[.u (x21.r.toNat:Int),.u (x21.g.toNat:Int),.u (x21.b.toNat:Int),.u (x21.a.toNat:Int)]) (.agg #[.u (y29.r.toNat:Int),.u (y29.g.toNat:Int),.u (y29.b.toNat:Int),.u (y29.a.toNat:Int)]) (.bool (!(((x21.r.toNat:Int)==(y29.r.toNat:Int))&&(((x21.g.toNat:Int)==(y29.g.toNat:Int))&&(((x21.b.toNat:Int)==(y29.b.toNat:Int))&&((x21.a.toNat:Int)==(y29.a.toNat:Int)))))))] [] [(24,.bool (!(((x21.r.toNat:Int)==(y29.r.toNat:Int))&&(((x21.g.toNat:Int)==(y29.g.toNat:Int))&&(((x21.b.toNat:Int)==(y29.b.toNat:Int))&&((x21.a.toNat:Int)==(y29.a.toNat:Int)))))))] trivial (hk:=⟨uq,uw,azD (fun _=>ah4 ..) (by kernel_rfl),trivial⟩) fun u yG S=>azb S (!(((x21.r.toNat:Int)==(y29.r.toNat:Int))&&(((x21.g.toNat:Int)==(y29.g.toNat:Int))&&(((x21.b.toNat:Int)==(y29.b.toNat:Int))&&((x21.a.toNat:Int)==(y29.a.toNat:Int)))))) (fun hc31 S=>?_) (fun hc31 S=>?_)
  ·refine ay9 S (.z) (fun S=>?_);exact⟨aN (qW uq uw (fun e=>by have hq:=hc31; rw[Gf,hx27]at e; subst e; simp at hq)),S.E⟩
  refine adr S 2 [] [.re 25 (.i (IntKind.i64.wrap ((k:Int)+1))) (.i (k+1:Nat))] (hk:=⟨azt (by omega),trivial⟩) fun S=>azy S gW (fun S=>?_);exact eH _ _ (k+1) ⟨by omega,(mM uq uw hR (by rw[Gf,hx27]; exact UK hc31)),S.sN⟩ (by show _-_<_-_; omega)
 refine ay9 S (.bool true) (fun S=>?_);exact⟨aN (qV (by have:=az4 fK; omega) (lF hc4) hR),S.E⟩
theorem Zn{w:World}{v u:Value}{l m:List Int}(h:aI 1 (fun x=>[AA x]) w v l)(h':aI 1 (fun x=>[AA x]) w u m) :
  Calls prog 184 #[v,u] w fun e w'=>e = .returned (.bool (l=m))∧Ext w w':=by
 obtain⟨a,cap,rfl⟩:=h.shape;obtain⟨d,cap',rfl⟩:=h'.shape;have hmax:l.length≤9223372036854775807:=h.len;refine aze func184 ntmps184 fun S=>azb S (((l.length:Int)) != (m.length:Int)) (fun hc4 S=>?_) (fun hc4 S=>?_)
 ·refine ay9 S (.z) (fun S=>?_);exact⟨aN (mJ hc4),S.E⟩
 refine azw S (ι:=Nat) (fun p a' w'=>p≤l.length∧(l.take p=m.take p)∧Sx.St w a' w' 26 [(0,.slice a l.length cap),(1,.slice d m.length cap'),(4,.z),(12,.i l.length),(13,.i p)] [] []) (fun p=>l.length-p) (0) (fun S=>⟨azQ _,rfl,S.sN⟩) ?_;rintro k ac u gW eH hI;try dsimp only at hI
 obtain⟨hk,hR,S⟩:=hI;refine azx S fun S=>azb S (decide ((k:Int)<(l.length:Int))) (fun fK S=>?_) (fun fK S=>?_)
 ·have uq:k<l.length:=by have:=azZ fK; omega
  obtain⟨b15,o16,rfl,x21,Gf,P8,MW⟩:=aAe h (fun _=>rfl) (k) uq;have S:=S.view0 P8 MW;have uw:k<m.length:=by have:=lF hc4; have:=azZ fK; omega
  obtain⟨b23,o24,rfl,y29,hx27,UL,UM⟩:=aAe h' (fun _=>rfl) (k) uw;have S:=S.view0 UL UM;refine azs S 9 [.idx k l.length,.mem 1 0,.idx k m.length,.mem 0 0] [] [(24,.bool ((x21) != y29))] trivial (hk:=⟨uq,uw,trivial⟩) fun u yG S=>azb S ((x21) != y29) (fun hc31 S=>?_) (fun hc31 S=>?_)
  ·refine ay9 S (.z) (fun S=>?_);exact⟨aN (qW uq uw (fun e=>by have hq:=hc31; rw[Gf,hx27]at e; subst e; simp at hq)),S.E⟩
  refine adr S 2 [] [.re 25 (.i (IntKind.i64.wrap ((k:Int)+1))) (.i (k+1:Nat))] (hk:=⟨azt (by omega),trivial⟩) fun S=>azy S gW (fun S=>?_);exact eH _ _ (k+1) ⟨by omega,(mM uq uw hR (by rw[Gf,hx27]; exact abS hc31)),S.sN⟩ (by show _-_<_-_; omega)
 refine ay9 S (.bool true) (fun S=>?_);exact⟨aN (qV (by have:=az4 fK; omega) (lF hc4) hR),S.E⟩
open Go.RowKit
variable{α:Type}
theorem Zo(p:bC):(((min (p.r.toNat:Int) (p.a.toNat:Int))==(p.r.toNat:Int))&&(((min (p.g.toNat:Int) (p.a.toNat:Int))==(p.g.toNat:Int))&&(((min (p.b.toNat:Int) (p.a.toNat:Int))==(p.b.toNat:Int))&&((min (p.a.toNat:Int) (p.a.toNat:Int))==(p.a.toNat:Int)))))=p.valid:=by
 have h:∀x y:UInt8,((min (x.toNat:Int) (y.toNat:Int))==(x.toNat:Int))=decide (x≤y):=by
  intro x y; rw[aAV]; simp only[azU,azW,UInt8.le_iff_toNat_le]; omega
 rw[h,h,h,h]; unfold bC.valid; simp
theorem DW{l:List α}{k:Nat}{p:α→Bool}(hk:l.length≤k)(h:(l.take k).all p=true):l.all p=true:=by rwa [aAp hk]at h
theorem MX{l:List α}{k:Nat}{p:α→Bool}(hk:k<l.length)(h:p l[k]=false):l.all p=false:=by
 rw[List.all_eq_false]; exact⟨l[k],aAc hk,by simp[h]⟩
theorem yH{l:List α}{k:Nat}{p:α→Bool}(hk:k<l.length)(hR:(l.take k).all p=true)(h:p l[k]=true):(l.take (k+1)).all p=true:=by
 rw[aAJ hk,List.all_append,hR]; simp[h]
theorem Zp{a b:Int}(ha:side a=true)(hb:side b=true):IntKind.i64.wrap (a*b)=a*b:=by
 simp only[side,azY,azW]at ha hb;have h1:a*b≤4096*4096:=Int.le_trans (Int.mul_le_mul_of_nonneg_right ha.2 (by omega)) (Int.mul_le_mul_of_nonneg_left hb.2 (by omega));have h0:0≤a*b:=Int.mul_nonneg (by omega) (by omega);rw[aB7]; omega
theorem P9{m:dB}:((((!(side m.w))||(!(side m.h)))||(decide (65536<IntKind.i64.wrap (m.w*m.h))))||((m.l.length:Int) != IntKind.i64.wrap (m.w*m.h)))=((((!(side m.w))||(!(side m.h)))||(decide (65536<(m.w*m.h))))||((m.l.length:Int) != (m.w*m.h))):=by
 cases ha:side m.w<;>cases hb:side m.h<;>simp only[Bool.not_false,Bool.not_true,Bool.true_or,Bool.false_or,Bool.or_true];rw[Zp ha hb]
theorem ai5{m:dB}(h:((((!(side m.w))||(!(side m.h)))||(decide (65536<(m.w*m.h))))||((m.l.length:Int) != (m.w*m.h)))=true):false=m.valid:=by
 unfold dB.valid dB.size;revert h;cases side m.w<;>cases side m.h<;>simp;intro h h1 h2; omega
theorem afR{m:dB}(h:((((!(side m.w))||(!(side m.h)))||(decide (65536<(m.w*m.h))))||((m.l.length:Int) != (m.w*m.h)))=false):(!(!(m.l.all bC.valid)))=m.valid:=by
 unfold dB.valid dB.size;revert h;cases side m.w<;>cases side m.h<;>simp;intro h h1; rw[h1]; simp[h]
theorem ai6{m n:dB}:((m.w==n.w)&&(m.h==n.h)&&decide (m.l=n.l))=m.eq n:=by
 unfold dB.eq;rw[Bool.and_assoc];by_cases h:m.l=n.l<;>simp[h]
theorem Zq{l:List dH}(h:((decide ((l.length:Int)<1))||(decide (16<(l.length:Int))))=true):false=iq l:=by
 unfold iq;simp only[aBu,azW]at h;rcases h with h | h
 ·rw[aBj (by omega)]; rfl
 rw[aBj (p:=l.length≤16) (by omega)]; simp
theorem Qa{l:List dH}(h:((decide ((l.length:Int)<1))||(decide (16<(l.length:Int))))=false):iq l=gX 0 l:=by
 unfold iq;simp only[aAz,aAk]at h;rw[aAW (p:=1≤l.length) (by omega),aAW (p:=l.length≤16) (by omega)]; rfl
theorem Zu{l:List dH}{k:Nat}{last:Int}(h:((decide ((l.length:Int)<1))||(decide (16<(l.length:Int))))=false)(hk:l.length≤k)(hR:gX 0 l=gX last (l.drop k)):true=iq l:=by
 rw[Qa h,hR,aA4 hk]; rfl
theorem Zv{l:List dH}{k:Nat}{last:Int}(h:((decide ((l.length:Int)<1))||(decide (16<(l.length:Int))))=false)(hk:k<l.length)(hR:gX 0 l=gX last (l.drop k))(hb:((decide (l[k].o<last))||(decide (65536<l[k].o)))=true):false=iq l:=by
 rw[Qa h,hR,aAR hk,gX];simp only[aBu,azW]at hb;rcases hb with hb | hb
 ·rw[aBj (by omega)]; rfl
 rw[aBj (p:=l[k].o≤65536) (by omega)]; simp
theorem UO{l:List dH}{k:Nat}{last:Int}(hk:k<l.length)(hR:gX 0 l=gX last (l.drop k))(hb:((decide (l[k].o<last))||(decide (65536<l[k].o)))=false):gX 0 l=gX l[k].o (l.drop (k+1)):=by
 rw[hR,aAR hk,gX];simp only[aAz,aAk]at hb;rw[aAW (p:=last≤l[k].o) (by omega),aAW (p:=l[k].o≤65536) (by omega)]; rfl
theorem uy{w:World}{b:Nat}(p:bC)(x:Int)(hx:Bx w b #[.u (p.r.toNat:Int),.u (p.g.toNat:Int),.u (p.b.toNat:Int),.u (p.a.toNat:Int)]) :
  Calls prog 307 #[.u x,.q b 0] w fun e w'=>e = .returned (.u (min x (p.a.toNat:Int)))∧w=w':=by
 skip;refine aze func307 ntmps307 (fun S=>?_);have S:=S.view0 hx.1 (hx.range 0 4 rfl);refine adr S 6 [] [.mem 0 3,.re 7 (.u (if (p.a.toNat:Int)<x then (p.a.toNat:Int)else x)) (.u (min x (p.a.toNat:Int)))] (hk:=⟨Sx.ai7,trivial⟩) fun S=>ay9 S (.u (min x (p.a.toNat:Int))) (fun S=>?_);exact⟨rfl,rfl⟩
theorem abU{w:World}{b:Nat}(p:bC)(hx:Bx w b #[.u (p.r.toNat:Int),.u (p.g.toNat:Int),.u (p.b.toNat:Int),.u (p.a.toNat:Int)]) :
  Calls prog 306 #[.agg #[.u (p.r.toNat:Int),.u (p.g.toNat:Int),.u (p.b.toNat:Int),.u (p.a.toNat:Int)],.func (.func 307) #[] #[.q b 0]] w fun e w'=>e = .returned (.agg #[.u (min (p.r.toNat:Int) (p.a.toNat:Int)),.u (min (p.g.toNat:Int) (p.a.toNat:Int)),.u (min (p.b.toNat:Int) (p.a.toNat:Int)),.u (min (p.a.toNat:Int) (p.a.toNat:Int))])∧Ext w w':=by
 skip;refine aze func306 ntmps306 (fun S=>?_);have S:=S.view0 hx.1 (hx.range 0 4 rfl);refine azd S fun u b2 E3 hb4 S=>azd S fun u b5 E6 hb7 S=>azs S 17 [.mem 1 0,.mem 1 1,.mem 1 2,.mem 1 3] [(_,_,true,.u (min (p.r.toNat:Int) (p.a.toNat:Int))),(_,_,true,.u (min (p.g.toNat:Int) (p.a.toNat:Int))),(_,_,true,.u (min (p.b.toNat:Int) (p.a.toNat:Int))),(_,_,true,.u (min (p.a.toNat:Int) (p.a.toNat:Int)))] [(21,.agg #[.u (min (p.r.toNat:Int) (p.a.toNat:Int)),.u (min (p.g.toNat:Int) (p.a.toNat:Int)),.u (min (p.b.toNat:Int) (p.a.toNat:Int)),.u (min (p.a.toNat:Int) (p.a.toNat:Int))])] ⟨fun u hC g=>azB (uy p (p.r.toNat:Int) (hx.ext (Ext.trans' S.E hC))),fun u hC g=>azB (uy p (p.g.toNat:Int) (hx.ext (Ext.trans' S.E hC))),fun u hC g=>azB (uy p (p.b.toNat:Int) (hx.ext (Ext.trans' S.E hC))),fun u hC g=>azB (uy p (p.a.toNat:Int) (hx.ext (Ext.trans' S.E hC))),trivial⟩ fun u E9 S=>azf S 0 rfl fun u C10 S=>azq S 0 rfl (v := .agg #[.u (min (p.r.toNat:Int) (p.a.toNat:Int)),.u (min (p.g.toNat:Int) (p.a.toNat:Int)),.u (min (p.b.toNat:Int) (p.a.toNat:Int)),.u (min (p.a.toNat:Int) (p.a.toNat:Int))]) (fun S=>?_);exact⟨rfl,S.E⟩
theorem UQ(p:bC)(w:World) :
  Calls prog 277 #[.agg #[.u (p.r.toNat:Int),.u (p.g.toNat:Int),.u (p.b.toNat:Int),.u (p.a.toNat:Int)]] w fun e w'=>e = .returned (.agg #[.u (min (p.r.toNat:Int) (p.a.toNat:Int)),.u (min (p.g.toNat:Int) (p.a.toNat:Int)),.u (min (p.b.toNat:Int) (p.a.toNat:Int)),.u (min (p.a.toNat:Int) (p.a.toNat:Int))])∧Ext w w':=by
 skip;refine aze func277 ntmps277 fun S=>azd S fun u b2 E3 hb4 S=>azd S fun u b5 E6 hb7 S=>adr S 2 [] [.mem 1 0] fun S=>azp S (abU p (S.lu 1)) fun u E9 S=>azf S 0 rfl fun u C10 S=>azq S 0 rfl (v := .agg #[.u (min (p.r.toNat:Int) (p.a.toNat:Int)),.u (min (p.g.toNat:Int) (p.a.toNat:Int)),.u (min (p.b.toNat:Int) (p.a.toNat:Int)),.u (min (p.a.toNat:Int) (p.a.toNat:Int))]) (fun S=>?_);exact⟨rfl,S.E⟩
theorem MZ(p:bC)(w:World) :
  Calls prog 237 #[.agg #[.u (p.r.toNat:Int),.u (p.g.toNat:Int),.u (p.b.toNat:Int),.u (p.a.toNat:Int)]] w fun e w'=>e = .returned (.bool p.valid)∧Ext w w':=by
 skip;refine aze func237 ntmps237 fun S=>azd S fun u b2 E3 hb4 S=>azs S 4 [.mem 0 0,.mem 0 0,.cmp .eql 178 (.tmp 4) (.tmp 5) (.agg #[.u (min (p.r.toNat:Int) (p.a.toNat:Int)),.u (min (p.g.toNat:Int) (p.a.toNat:Int)),.u (min (p.b.toNat:Int) (p.a.toNat:Int)),.u (min (p.a.toNat:Int) (p.a.toNat:Int))]) (.agg #[.u (p.r.toNat:Int),.u (p.g.toNat:Int),.u (p.b.toNat:Int),.u (p.a.toNat:Int)]) (.bool (((min (p.r.toNat:Int) (p.a.toNat:Int))==(p.r.toNat:Int))&&(((min (p.g.toNat:Int) (p.a.toNat:Int))==(p.g.toNat:Int))&&(((min (p.b.toNat:Int) (p.a.toNat:Int))==(p.b.toNat:Int))&&((min (p.a.toNat:Int) (p.a.toNat:Int))==(p.a.toNat:Int))))))] [(_,_,true,.agg #[.u (min (p.r.toNat:Int) (p.a.toNat:Int)),.u (min (p.g.toNat:Int) (p.a.toNat:Int)),.u (min (p.b.toNat:Int) (p.a.toNat:Int)),.u (min (p.a.toNat:Int) (p.a.toNat:Int))])] [(6,.bool (((min (p.r.toNat:Int) (p.a.toNat:Int))==(p.r.toNat:Int))&&(((min (p.g.toNat:Int) (p.a.toNat:Int))==(p.g.toNat:Int))&&(((min (p.b.toNat:Int) (p.a.toNat:Int))==(p.b.toNat:Int))&&((min (p.a.toNat:Int) (p.a.toNat:Int))==(p.a.toNat:Int))))))] ⟨fun u hC g=>UQ p _,trivial⟩ (hk:=⟨azD (fun _=>ah5 ..) (by kernel_rfl),trivial⟩) fun u E6 S=>ay9 S (.bool (((min (p.r.toNat:Int) (p.a.toNat:Int))==(p.r.toNat:Int))&&(((min (p.g.toNat:Int) (p.a.toNat:Int))==(p.g.toNat:Int))&&(((min (p.b.toNat:Int) (p.a.toNat:Int))==(p.b.toNat:Int))&&((min (p.a.toNat:Int) (p.a.toNat:Int))==(p.a.toNat:Int)))))) (fun S=>?_);exact⟨aN (Zo p),S.E⟩
theorem UR(p:bC)(w:World) :
  Calls prog 236 #[.agg #[.u (p.r.toNat:Int),.u (p.g.toNat:Int),.u (p.b.toNat:Int),.u (p.a.toNat:Int)]] w fun e w'=>e = .returned (.bool (!p.valid))∧Ext w w':=by
 skip;refine aze func236 ntmps236 fun S=>azd S fun u b2 E3 hb4 S=>adr S 2 [] [.mem 0 0] fun S=>azp S (MZ p _) fun u E6 S=>ay9 S (.bool (!p.valid)) (fun S=>?_);exact⟨rfl,S.E⟩
theorem Nc{w:World}{v:Value}{l:List bC}(h:aI 4 bC.cells w v l) :
  Calls prog 276 #[v,.func (.func 236) #[] #[]] w fun e w'=>∃z,e = .returned (.i z)∧decide (0≤z) = !(l.all bC.valid)∧Ext w w':=by
 obtain⟨a,cap,rfl⟩:=h.shape;have hmax:l.length≤9223372036854775807:=h.len;refine aze func276 ntmps276 fun S=>azw S (ι:=Nat) (fun p a' w'=>p≤l.length∧((l.take p).all bC.valid=true)∧Sx.St w a' w' 19 [(0,.slice a l.length cap),(1,.func (.func 236) #[] #[]),(4,.i 0),(7,.i l.length),(8,.i p)] [] []) (fun p=>l.length-p) (0) (fun S=>⟨azQ _,rfl,S.sN⟩) ?_;rintro k ac u gW eH hI;try dsimp only at hI
 obtain⟨hk,hR,S⟩:=hI;refine azx S fun S=>azb S (decide ((k:Int)<(l.length:Int))) (fun hc6 S=>?_) (fun hc6 S=>?_)
 ·have sO:k<l.length:=by have:=azZ hc6; omega
  obtain⟨b10,o11,rfl,x16,yU,vM,Nh⟩:=aAe h (fun _=>rfl) (k) sO;have S:=S.view0 vM Nh;refine adr S 7 [] [.idx k l.length,.mem 0 0] (hk:=⟨sO,trivial⟩) fun S=>azp S (UR x16 _) fun u yV S=>azb S (!x16.valid) (fun hc19 S=>?_) (fun hc19 S=>?_)
  ·refine ay9 S (.i k) (fun S=>?_);exact⟨_,rfl,by rw[MX sO (by rw[yU]; simpa using hc19)]; simp,S.E⟩
  refine adr S 2 [] [.re 18 (.i (IntKind.i64.wrap ((k:Int)+1))) (.i (k+1:Nat))] (hk:=⟨azt (by omega),trivial⟩) fun S=>azy S gW (fun S=>?_);exact eH _ _ (k+1) ⟨by omega,(yH sO hR (by rw[yU]; simpa using hc19)),S.sN⟩ (by show _-_<_-_; omega)
 refine ay9 S (.i (-1)) (fun S=>?_);exact⟨_,rfl,by rw[DW (by have:=az4 hc6; omega) hR]; rfl,S.E⟩
theorem Qb{w:World}{v:Value}{l:List bC}(h:aI 4 bC.cells w v l) :
  Calls prog 235 #[v,.func (.func 236) #[] #[]] w fun e w'=>e = .returned (.bool (!(l.all bC.valid)))∧Ext w w':=by
 skip;refine aze func235 ntmps235 fun S=>azo S (Nc (h.below S.E)) ?_;rintro e u ⟨z,rfl,hz,E3⟩;refine⟨_,rfl,E3,fun S=>?_⟩;refine ay9 S (.bool (0≤z)) (fun S=>?_);exact⟨aN hz,S.E⟩
theorem Qc(n:Int)(w:World) :
  Calls prog 234 #[.i n] w fun e w'=>e = .returned (.bool (side n))∧w=w':=by
 skip;refine aze func234 ntmps234 fun S=>ay9 S (.bool ((decide (1≤n))&&(decide (n≤4096)))) (fun S=>?_);exact⟨rfl,rfl⟩
theorem AB{w:World}{m:dB}(h:m.ok w) :
  Calls prog 195 #[m.v] w fun e w'=>e = .returned (.bool m.valid)∧Ext w w':=by
 obtain⟨a,cap,hs⟩:=h.2.2.shape;unfold dB.v;have hq:=h.2.2;rw[hs];rw[hs]at hq;refine aze func195 ntmps195 fun S=>azd S fun u b2 E3 hb4 S=>adr S 5 [] [.mem 0 0] fun S=>Sx.lU S (Qc m.w _) fun S=>aAG S 27 [.mem 0 1,.mem 0 0,.mem 0 1,.mem 0 2,.mem 0 0,.mem 0 1] [(_,_,(!(!(side m.w))),.bool (side m.h))] [(34,.bool ((((!(side m.w))||(!(side m.h)))||(decide (65536<(IntKind.i64.wrap (m.w*m.h)))))||(((m.l.length:Int)) != (IntKind.i64.wrap (m.w*m.h)))))] ⟨fun u hC g=>azB (Qc m.h _),trivial⟩ fun u E8 S=>azb S ((((!(side m.w))||(!(side m.h)))||(decide (65536<(IntKind.i64.wrap (m.w*m.h)))))||(((m.l.length:Int)) != (IntKind.i64.wrap (m.w*m.h)))) (fun Jz S=>?_) (fun Jz S=>?_)
 ·refine ay9 S (.z) (fun S=>?_);exact⟨aN (ai5 (P9▸Jz)),S.E⟩
 refine adr S 2 [] [.mem 0 2] fun S=>azp S (Qb (hq.below S.E)) fun u qM S=>ay9 S (.bool (!(!(m.l.all bC.valid)))) (fun S=>?_);exact⟨aN (afR (P9▸Jz)),S.E⟩
theorem uz{w:World}{m n:dB}(h:m.ok w)(h':n.ok w) :
  Calls prog 141 #[m.v,n.v] w fun e w'=>e = .returned (.bool (m.eq n))∧Ext w w':=by
 skip;refine aze func141 ntmps141 fun S=>azd S fun u b2 E3 hb4 S=>azd S fun u b5 E6 hb7 S=>adr S 1 [] [] fun S=>aAG S 20 [.mem 1 0,.mem 0 0,.mem 1 1,.mem 0 1,.mem 1 2,.mem 0 2] [(_,_,(((m.w)==n.w)&&((m.h)==n.h)),.bool (m.l=n.l))] [(4,.bool ((((m.w)==n.w)&&((m.h)==n.h))&&(decide (m.l=n.l))))] ⟨fun u hC g=>Zm (h.2.2.below (Ext.trans' S.E hC)) (h'.2.2.below (Ext.trans' S.E hC)),trivial⟩ fun u E9 S=>ay9 S (.bool ((((m.w)==n.w)&&((m.h)==n.h))&&(decide (m.l=n.l)))) (fun S=>?_);exact⟨aN ai6,S.E⟩
theorem JD{w:World}{v:Value}{l:List dH}(h:aI 5 dH.cells w v l) :
  Calls prog 331 #[v] w fun e w'=>e = .returned (.bool (iq l))∧Ext w w':=by
 obtain⟨a,cap,rfl⟩:=h.shape;have hmax:l.length≤9223372036854775807:=h.len;refine aze func331 ntmps331 fun S=>azb S ((decide ((l.length:Int)<1))||(decide (16<(l.length:Int)))) (fun hc4 S=>?_) (fun hc4 S=>?_)
 ·refine ay9 S (.z) (fun S=>?_);exact⟨aN (Zq hc4),S.E⟩
 refine azw S (ι:=Nat×Int) (fun p a' w'=>p.1≤l.length∧(gX 0 l=gX p.2 (l.drop p.1))∧Sx.St w a' w' 32 [(0,.slice a l.length cap),(2,.z),(3,.i p.2),(14,.slice a l.length cap),(15,.i l.length),(16,.i p.1)] [] []) (fun p=>l.length-p.1) (0,0) (fun S=>⟨azQ _,rfl,S.sN⟩) ?_;rintro⟨k,last⟩ ac u gW eH hI;try dsimp only at hI
 obtain⟨hk,hR,S⟩:=hI;refine azx S fun S=>azb S (decide ((k:Int)<(l.length:Int))) (fun gU S=>?_) (fun gU S=>?_)
 ·have nY:k<l.length:=by have:=azZ gU; omega
  obtain⟨b14,o15,rfl,x20,uD,vU,Nj⟩:=aAe h (fun _=>rfl) (k) nY;have S:=S.view0 vU Nj;refine adr S 2 [] [.idx k l.length,.mem 0 0] (hk:=⟨nY,trivial⟩) fun S=>azd S fun u b22 E23 ai8 S=>azf S 0 rfl fun u Zw S=>adr S 9 [] [.mem 0 0,.mem 0 0] fun S=>azb S ((decide (x20.o<last))||(decide (65536<x20.o))) (fun hc28 S=>?_) (fun hc28 S=>?_)
  ·refine ay9 S (.z) (fun S=>?_);exact⟨aN (Zv hc4 nY hR (by rw[uD]; exact hc28)),S.E⟩
  refine adr S 5 [] [.mem 0 0,.re 31 (.i (IntKind.i64.wrap ((k:Int)+1))) (.i (k+1:Nat))] (hk:=⟨azt (by omega),trivial⟩) fun S=>azy S gW (fun S=>?_);exact eH _ _ ((k+1),x20.o) ⟨by omega,(by rw[←uD]; exact UO nY hR (by rw[uD]; exact hc28)),(S.iH 1).sN⟩ (by show _-_<_-_; omega)
 refine ay9 S (.bool true) (fun S=>?_);exact⟨aN (Zu hc4 (by have:=az4 gU; omega) hR),S.E⟩
theorem abV(n:Int)(w:World) :
  Calls prog 193 #[.i n] w fun e w'=>e = .returned (.bool (decide (1≤n)&&decide (n≤13)))∧w=w':=by
 skip;refine aze func193 ntmps193 fun S=>ay9 S (.bool ((decide (1≤n))&&(decide (n≤13)))) (fun S=>?_);exact⟨rfl,rfl⟩
theorem Gg(n:Int)(w:World) :
  Calls prog 305 #[.i n] w fun e w'=>e = .returned (.bool (iC n))∧w=w':=by
 skip;refine aze func305 ntmps305 fun S=>ay9 S (.bool ((decide (1≤n))&&(decide (n≤3)))) (fun S=>?_);exact⟨rfl,rfl⟩
theorem abW(n:Int)(w:World) :
  Calls prog 271 #[.i n] w fun e w'=>e = .returned (.bool (decide (1≤n)&&decide (n≤16384)))∧w=w':=by
 skip;refine aze func271 ntmps271 fun S=>ay9 S (.bool ((decide (1≤n))&&(decide (n≤16384)))) (fun S=>?_);exact⟨rfl,rfl⟩
open Go.RowKit
variable{α:Type}
def pI(l s:List Int):Option Bool:=if s.all (fun x=>decide (0≤x)&&decide (x≤1048576))then some (((l.length:Int)==0)||s.any (fun x=>decide (0<x)))else none
def rV(l:List Int):Bool:=l.all (fun x=>decide (0≤x)&&decide (x≤1048576))&&((((((l.length:Int)==0)||l.any (fun x=>decide (0<x)))&&((Int.tmod (l.length:Int) 2)==0))&&(decide ((l.length:Int)≤16))))
theorem Zx(l:List Int):pI l (l.take 0)=some ((l.length:Int)==0):=by simp[pI]
theorem Zy{l:List Int}{k:Nat}{any:Bool}(hk:k<l.length)(hR:pI l (l.take k)=some any)(hb:((decide (l[k]<0))||(decide (1048576<l[k])))=false):pI l (l.take (k+1))=some (any||(decide (0<l[k]))):=by
 unfold pI at hR ⊢;rw[aAJ hk,List.all_append,List.any_append];simp only[aAz,aAk]at hb;split at hR
 ·rename_i h;obtain rfl:=azR hR;rw[h];simp[show 0≤l[k] by omega,show l[k]≤1048576 by omega,Bool.or_assoc]
 cases hR
theorem abX{l:List Int}{k:Nat}{any:Bool}(hk:k<l.length)(hR:pI l (l.take k)=some any)(hb:((decide (l[k]<0))||(decide (1048576<l[k])))=true):false=rV l:=by
 simp only[aBu,azW]at hb;unfold rV;rw[MX hk (by simp; omega)]; rfl
theorem abY{l:List Int}{k:Nat}{any:Bool}(hk:l.length≤k)(hR:pI l (l.take k)=some any):((any&&((Int.tmod (l.length:Int) 2)==0))&&(decide ((l.length:Int)≤16)))=rV l:=by
 unfold pI at hR;rw[aAp hk]at hR;split at hR
 ·rename_i h;obtain rfl:=azR hR;unfold rV;rw[h]; rfl
 cases hR
def dK(b:Bool)(n:Int):Value:=if b=true then .iface 213 (.agg #[.i n,.nilIface])else .nilIface
theorem Zz{b:Bool}{n:Int}{x:Operand}:∀w,(do eqGuard .neq 210 x (.const .nilIface) (dK b n) .nilIface; binOp .neq 210 (dK b n) .nilIface:Sem Value).run prog w = .ok (.bool (!(!b))) w:=fun w=>by
 cases b<;>simp[dK,go_sem]
def ku:List (Bool×Int)→Value
 | [] => .nilIface
 | p::l=>if p.1=true then .iface 213 (.agg #[.i 0,.iface 213 (.agg #[.i p.2,.nilIface])])else ku l
theorem UU{w:World}{v:Value}{l:List Int}(h:dD AA w v l) :
  Calls prog 272 #[v] w fun e w'=>e = .returned (.bool (rV l))∧Ext w w':=by
 obtain⟨a,cap,rfl⟩:=(fE h).shape;have hmax:l.length≤9223372036854775807:=(fE h).len;refine aze func272 ntmps272 fun S=>azw S (ι:=Nat×Bool) (fun p a' w'=>p.1≤l.length∧(pI l (l.take p.1)=some p.2)∧Sx.St w a' w' 39 [(0,.slice a l.length cap),(2,.z),(3,.bool p.2),(9,.slice a l.length cap),(10,.i l.length),(11,.i p.1)] [] []) (fun p=>l.length-p.1) (0,((l.length:Int)==0)) (fun S=>⟨azQ _,Zx l,S.sN⟩) ?_;rintro⟨k,any⟩ ac u gW eH hI;try dsimp only at hI
 obtain⟨hk,hR,S⟩:=hI;refine azx S fun S=>azb S (decide ((k:Int)<(l.length:Int))) (fun nJ S=>?_) (fun nJ S=>?_)
 ·have sO:k<l.length:=by have:=azZ nJ; omega
  obtain⟨b10,o11,rfl,x16,yU,vM,Nh⟩:=aAe (fE h) (fun _=>rfl) (k) sO;have S:=S.view0 vM Nh;refine adr S 9 [] [.idx k l.length,.mem 0 0] (hk:=⟨sO,trivial⟩) fun S=>azb S ((decide (x16<0))||(decide (1048576<x16))) (fun qm S=>?_) (fun qm S=>?_)
  ·refine ay9 S (.z) (fun S=>?_);exact⟨aN (abX sO hR (by rw[yU]; exact qm)),S.E⟩
  refine adr S 8 [] [.re 26 (.i (IntKind.i64.wrap ((k:Int)+1))) (.i (k+1:Nat))] (hk:=⟨azt (by omega),trivial⟩) fun S=>azy S gW (fun S=>?_);exact eH _ _ ((k+1),any||(decide (0<x16))) ⟨by omega,(by rw[←yU]; exact Zy sO hR (by rw[yU]; exact qm)),S.sN⟩ (by show _-_<_-_; omega)
 refine ay9 S (.bool ((any&&(((Int.tmod (l.length:Int) 2))==0))&&(decide ((l.length:Int)≤16)))) (fun S=>?_);exact⟨aN (abY (by have:=az4 nJ; omega) hR),S.E⟩
def aS.valid(p:aS):Bool:=(((((((decide (1≤p.width)&&decide (p.width≤16384))&&((((p.join)==1)||((p.join)==2))||((p.join)==3)))&&((((p.cap)==3)||((p.cap)==4))||((p.cap)==5)))&&(decide (256≤p.eU)))&&(decide (p.eU≤65536)))&&(rV p.dash))&&(decide (0≤p.phase)))&&(decide (p.phase≤1048576))
def aS.eq(p q:aS):Bool:=((((((p.width)==q.width)&&((p.join)==q.join))&&((p.cap)==q.cap))&&((p.eU)==q.eU))&&((p.phase)==q.phase))&&(decide (p.dash=q.dash))
theorem ZA{w:World}{p:aS}(h:p.ok w) :
  Calls prog 232 #[p.v] w fun e w'=>e = .returned (.bool p.valid)∧Ext w w':=by
 skip;refine aze func232 ntmps232 fun S=>azd S fun u b2 E3 hb4 S=>adr S 31 [] [.mem 0 1,.mem 0 1,.mem 0 1,.mem 0 2,.mem 0 2,.mem 0 2,.mem 0 0] fun S=>Sx.lU S (abW p.width _) fun S=>aAG S 32 [.mem 0 3,.mem 0 3,.mem 0 4,.mem 0 5,.mem 0 5] [(_,_,(((((decide (1≤p.width)&&decide (p.width≤16384))&&((((p.join)==1)||((p.join)==2))||((p.join)==3)))&&((((p.cap)==3)||((p.cap)==4))||((p.cap)==5)))&&(decide (256≤p.eU)))&&(decide (p.eU≤65536))),.bool (rV p.dash))] [(2,.bool ((((((((decide (1≤p.width)&&decide (p.width≤16384))&&((((p.join)==1)||((p.join)==2))||((p.join)==3)))&&((((p.cap)==3)||((p.cap)==4))||((p.cap)==5)))&&(decide (256≤p.eU)))&&(decide (p.eU≤65536)))&&(rV p.dash))&&(decide (0≤p.phase)))&&(decide (p.phase≤1048576))))] ⟨fun u hC g=>UU (h.2.2.2.2.1.below (Ext.trans' S.E hC)),trivial⟩ fun u E8 S=>ay9 S (.bool ((((((((decide (1≤p.width)&&decide (p.width≤16384))&&((((p.join)==1)||((p.join)==2))||((p.join)==3)))&&((((p.cap)==3)||((p.cap)==4))||((p.cap)==5)))&&(decide (256≤p.eU)))&&(decide (p.eU≤65536)))&&(rV p.dash))&&(decide (0≤p.phase)))&&(decide (p.phase≤1048576)))) (fun S=>?_);exact⟨rfl,S.E⟩
theorem vV{w:World}{p q:aS}(h:p.ok w)(h':q.ok w) :
  Calls prog 140 #[p.v,q.v] w fun e w'=>e = .returned (.bool (p.eq q))∧Ext w w':=by
 skip;refine aze func140 ntmps140 fun S=>azd S fun u b2 E3 hb4 S=>azd S fun u b5 E6 hb7 S=>adr S 1 [] [] fun S=>aAG S 41 [.mem 1 0,.mem 0 0,.mem 1 1,.mem 0 1,.mem 1 2,.mem 0 2,.mem 1 3,.mem 0 3,.mem 1 5,.mem 0 5,.mem 1 4,.mem 0 4] [(_,_,((((((p.width)==q.width)&&((p.join)==q.join))&&((p.cap)==q.cap))&&((p.eU)==q.eU))&&((p.phase)==q.phase)),.bool (p.dash=q.dash))] [(4,.bool (((((((p.width)==q.width)&&((p.join)==q.join))&&((p.cap)==q.cap))&&((p.eU)==q.eU))&&((p.phase)==q.phase))&&(decide (p.dash=q.dash))))] ⟨fun u hC g=>Zn (fE (h.2.2.2.2.1.below (Ext.trans' S.E hC))) (fE (h'.2.2.2.2.1.below (Ext.trans' S.E hC))),trivial⟩ fun u E9 S=>ay9 S (.bool (((((((p.width)==q.width)&&((p.join)==q.join))&&((p.cap)==q.cap))&&((p.eU)==q.eU))&&((p.phase)==q.phase))&&(decide (p.dash=q.dash)))) (fun S=>?_);exact⟨rfl,S.E⟩
theorem Qd(n:Int)(w:World) :
  Calls prog 186 #[.i n] w fun e w'=>e = .returned (.bool ((n==1)||(n==2)))∧w=w':=by
 skip;refine aze func186 ntmps186 fun S=>ay9 S (.bool (((n)==1)||((n)==2))) (fun S=>?_);exact⟨rfl,rfl⟩
theorem iT(b:Bool)(n:Int)(w:World) :
  Calls prog 188 #[.bool b,.i n] w fun e w'=>e = .returned (dK b n)∧w=w':=by
 skip;refine aze func188 ntmps188 fun S=>azb S (!b) (fun hc4 S=>?_) (fun hc4 S=>?_)
 ·refine ay9 S (.nilIface) (fun S=>?_);obtain rfl:b=false:=by simpa using hc4
  exact⟨rfl,rfl⟩
 refine ay9 S (.iface 213 (.agg #[.i n,.nilIface])) (fun S=>?_);obtain rfl:b=true:=by simpa using hc4
 exact⟨rfl,rfl⟩
theorem first_any{w:World}{v:Value}{l:List (Bool×Int)}(h:aI 1 (fun p=>[dK p.1 p.2]) w v l) :
  Calls prog 187 #[v] w fun e w'=>e = .returned (ku l)∧Ext w w':=by
 obtain⟨a,cap,rfl⟩:=h.shape;have hmax:l.length≤9223372036854775807:=h.len;refine aze func187 ntmps187 fun S=>azw S (ι:=Nat) (fun p a' w'=>p≤l.length∧(ku l=ku (l.drop p))∧Sx.St w a' w' 17 [(0,.slice a l.length cap),(2,.nilIface),(5,.slice a l.length cap),(6,.i l.length),(7,.i p)] [] []) (fun p=>l.length-p) (0) (fun S=>⟨azQ _,rfl,S.sN⟩) ?_;rintro k ac u gW eH hI;try dsimp only at hI
 obtain⟨hk,hR,S⟩:=hI;refine azx S fun S=>azb S (decide ((k:Int)<(l.length:Int))) (fun hc6 S=>?_) (fun hc6 S=>?_)
 ·have fZ:k<l.length:=by have:=azZ hc6; omega
  obtain⟨b9,o10,rfl,x15,jy,hb16,uF⟩:=aAe h (fun _=>rfl) (k) fZ;have S:=S.view0 hb16 uF;refine adr S 5 [] [.idx k l.length,.mem 0 0,.cmp .neq 210 (.tmp 11) (.const .nilIface) (dK x15.1 x15.2) .nilIface (.bool (!(!x15.1)))] (hk:=⟨fZ,Zz,trivial⟩) fun S=>azb S (!(!x15.1)) (fun hc18 S=>?_) (fun hc18 S=>?_)
  ·have hb:x15.1=true:=by simpa using hc18
   rw[show dK x15.1 x15.2 = .iface 213 (.agg #[.i x15.2,.nilIface])from azI hb]at S;try rw[show dK x15.1 x15.2 = .iface 213 (.agg #[.i x15.2,.nilIface])from azI hb]
   refine ay9 S (.iface 213 (.agg #[.i 0,.iface 213 (.agg #[.i x15.2,.nilIface])])) (fun S=>?_);exact⟨by rw[hR,aAR fZ,jy,ku,azI hb],S.E⟩
  refine adr S 2 [] [.re 16 (.i (IntKind.i64.wrap ((k:Int)+1))) (.i (k+1:Nat))] (hk:=⟨azt (by omega),trivial⟩) fun S=>azy S gW (fun S=>?_);exact eH _ _ (k+1) ⟨by omega,(by rw[hR,aAR fZ,jy,ku,azG (by simpa using hc18)]),S.sN⟩ (by show _-_<_-_; omega)
 refine ay9 S (.nilIface) (fun S=>?_);exact⟨by rw[hR,aA4 (by have:=az4 hc6; omega)]; rfl,S.E⟩
end Go.Proofs.YtodpgjjgaddkeaaGreatDoor
