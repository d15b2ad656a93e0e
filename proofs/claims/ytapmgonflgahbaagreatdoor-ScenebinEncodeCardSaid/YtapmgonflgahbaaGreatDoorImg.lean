/- slices.Equal of the rows that nodes hold. -/
import Derived.Test.YtapmgonflgahbaaGreatDoorPath
set_option linter.unusedVariables false
set_option maxHeartbeats 1600000
set_option maxRecDepth 100000
namespace Go.Proofs.YtapmgonflgahbaaGreatDoor
open _root_.Go.Proofs.Tryz
open Go.RowKit
variable{α:Type}
theorem aC{a b:Bool}(h:a=b):Ending.returned (.bool a) = .returned (.bool b):=by rw[h]
theorem nI [DecidableEq α]{l m:List α}(h:((l.length:Int) != (m.length:Int))=true):false=decide (l=m):=by
 have h1:l≠m:=fun e=>by subst e; simp at h
 simp[h1]
theorem lZ{l m:List α}(h:((l.length:Int) != (m.length:Int))=false):l.length=m.length:=by simp at h; omega
theorem tK [DecidableEq α]{l m:List α}{k:Nat}(hk:l.length≤k)(h:l.length=m.length)(hR:l.take k=m.take k):true=decide (l=m):=by
 rw[aou hk,aou (by omega)]at hR; simp[hR]
theorem tJ [DecidableEq α]{l m:List α}{k:Nat}(h1:k<l.length)(h2:k<m.length)(h:l[k]≠m[k]):false=decide (l=m):=by
 have h1:l≠m:=fun e=>by subst e; exact h rfl
 simp[h1]
theorem nJ{l m:List α}{k:Nat}(h1:k<l.length)(h2:k<m.length)(hR:l.take k=m.take k)(h:l[k]=m[k]):l.take (k+1)=m.take (k+1):=by
 rw[aoZ h1,aoZ h2,hR,h]
theorem Yp{x y:eU}(h:(!((x.verb==y.verb)&&((x.a.x==y.a.x)&&((x.a.y==y.a.y)&&((x.b.x==y.b.x)&&((x.b.y==y.b.y)&&((x.c.x==y.c.x)&&(x.c.y==y.c.y))))))))=false):x=y:=by
 obtain⟨v,⟨a,b⟩,⟨c,d⟩,⟨e,f⟩⟩:=x;obtain⟨v',⟨a',b'⟩,⟨c',d'⟩,⟨e',f'⟩⟩:=y;simp at h ⊢; omega
theorem ER{a b:UInt8}(h:(a.toNat:Int)=(b.toNat:Int)):a=b:=aps.1 (by omega)
theorem Qw{x y:bT}(h:(!(((x.r.toNat:Int)==y.r.toNat)&&(((x.g.toNat:Int)==y.g.toNat)&&(((x.b.toNat:Int)==y.b.toNat)&&((x.a.toNat:Int)==y.a.toNat)))))=false):x=y:=by
 obtain⟨a,b,c,d⟩:=x;obtain⟨a',b',c',d'⟩:=y;simp only[ao4,aoq,aoo]at h;rw[ER h.1,ER h.2.1,ER h.2.2.1,ER h.2.2.2]
theorem TU{x y:fH}(h:(!((x.o==y.o)&&(((x.c.r.toNat:Int)==y.c.r.toNat)&&(((x.c.g.toNat:Int)==y.c.g.toNat)&&(((x.c.b.toNat:Int)==y.c.b.toNat)&&((x.c.a.toNat:Int)==y.c.a.toNat))))))=false):x=y:=by
 obtain⟨o,c⟩:=x;obtain⟨o',c'⟩:=y;simp only[ao4,aoq,aoo]at h;have:c=c':=Qw (by simp only[ao4,aoq,aoo]; exact h.2);rw[h.1,this]
theorem Yw{x y:Int}(h:(x != y)=false):x=y:=by simpa using h
theorem VF{w:World}{v u:Value}{l m:List eU}(h:aV 7 eU.cells w v l)(h':aV 7 eU.cells w u m) :
  Calls prog 133 #[v,u] w fun e w'=>e = .returned (.bool (l=m))∧Ext w w':=by
 obtain⟨a,cap,rfl⟩:=h.shape;obtain⟨d,cap',rfl⟩:=h'.shape;have hmax:l.length≤9223372036854775807:=h.len;refine anA func133 ntmps133 fun ac S=>anv fun _ aS=>adr S 1 [] [(4,.z)] fun S=>anu<|aS _ _<|anV fun _ eP=>anv fun _ jv=>adr S 5 [] [(10,.bool (((l.length:Int)) != (m.length:Int)))] fun S=>anu (jv _ _ ?_);refine anx S (fun hc4=>?_) (fun hc4=>?_)
 ·refine anv fun _ bM=>adr S 1 [] [(4,.z)] fun S=>anu<|bM _ _<|anz S results133 ?_;exact⟨aC (nI hc4),S.E⟩
 refine anZ<|eP _ _<|anV fun _ iL=>anv fun _ iZ=>adr S 3 [] [(12,.i l.length),(13,.i 0)] fun S=>anu<|iZ _ _<|an1 ?_;refine aow (ι:=Nat) (fun p a' w'=>p≤l.length∧(l.take p=m.take p)∧Sx.St w a' w' 26 [(0,.slice a l.length cap),(1,.slice d m.length cap'),(4,.z),(12,.i l.length),(13,.i p)] [] []) (fun p=>l.length-p) (0) ⟨aoa _,rfl,S.sn⟩ ?_;rintro k ac u hI;try dsimp only at hI
 obtain⟨hk,hR,S⟩:=hI;refine anv fun _ eu=>adr S 1 [] [(14,.bool ((k:Int)<(l.length:Int)))] fun S=>anu<|eu _ _<|anV (fun _ ig=>?_);refine anx S (fun dn=>?_) (fun dn=>?_)
 ·refine anZ<|ig _ _<|anV fun _ cZ=>an1<|anv fun _ dW=>adr S 2 [] [(5,.i k)] fun S=>anu<|dW _ _<|anV (fun _ iH=>?_);have rY:k<l.length:=by have:=aoe dn; omega
  obtain⟨b15,o16,rfl,x21,CP,Kq,ES⟩:=aom h (fun _=>rfl) (k) rY;have S:=S.view0 Kq ES;have pq:k<m.length:=by have:=lZ hc4; have:=aoe dn; omega
  obtain⟨b23,o24,rfl,y29,hx27,ET,EU⟩:=aom h' (fun _=>rfl) (k) pq;have S:=S.view0 ET EU;refine anI S 9 [.idx k l.length,.mem 1 0,.idx k m.length,.mem 0 0,.cmp .neq 138 (.tmp 19) (.tmp 23) (.agg #[.i x21.verb,.i x21.a.x,.i x21.a.y,.i x21.b.x,.i x21.b.y,.i x21.c.x,.i x21.c.y]) (.agg #[.i y29.verb,.i y29.a.x,.i y29.a.y,.i y29.b.x,.i y29.b.y,.i y29.c.x,.i y29.c.y]) (.bool (!((x21.verb==y29.verb)&&((x21.a.x==y29.a.x)&&((x21.a.y==y29.a.y)&&((x21.b.x==y29.b.x)&&((x21.b.y==y29.b.y)&&((x21.c.x==y29.c.x)&&(x21.c.y==y29.c.y)))))))))] [] [(24,.bool (!((x21.verb==y29.verb)&&((x21.a.x==y29.a.x)&&((x21.a.y==y29.a.y)&&((x21.b.x==y29.b.x)&&((x21.b.y==y29.b.y)&&((x21.c.x==y29.c.x)&&(x21.c.y==y29.c.y)))))))))] trivial (hk:=⟨rY,pq,anN (fun _=>adl ..) (by kernel_rfl),trivial⟩) fun ac u zD S=>anu (iH _ _ ?_);refine anx S (fun hc31=>?_) (fun hc31=>?_)
  ·refine anv fun _ mZ=>adr S 1 [] [(4,.z)] fun S=>anu<|mZ _ _<|anz S results133 ?_;exact⟨aC (tJ rY pq (fun e=>by have hq:=hc31; rw[CP,hx27]at e; subst e; simp at hq)),S.E⟩
  refine anZ<|cZ _ _<|an3<|adr S 2 [.re 25 (.i (IntKind.i64.wrap ((k:Int)+1))) (.i (k+1:Nat))] [(13,.i (k+1:Nat))] (hk:=⟨anJ (by omega),trivial⟩) fun S=>anu ?_;show ∃i',_∧_;exact⟨(k+1),⟨by omega,(nJ rY pq hR (by rw[CP,hx27]; exact Yp hc31)),S.sn⟩,by show _-_<_-_; omega⟩
 refine aod<|iL _ _<|anv fun _ jO=>adr S 1 [] [(4,.bool true)] fun S=>anu<|jO _ _<|anz S results133 ?_;exact⟨aC (tK (by have:=aoi dn; omega) (lZ hc4) hR),S.E⟩
theorem QG{w:World}{v u:Value}{l m:List fH}(h:aV 5 fH.cells w v l)(h':aV 5 fH.cells w u m) :
  Calls prog 134 #[v,u] w fun e w'=>e = .returned (.bool (l=m))∧Ext w w':=by
 obtain⟨a,cap,rfl⟩:=h.shape;obtain⟨d,cap',rfl⟩:=h'.shape;have hmax:l.length≤9223372036854775807:=h.len;refine anA func134 ntmps134 fun ac S=>anv fun _ aS=>adr S 1 [] [(4,.z)] fun S=>anu<|aS _ _<|anV fun _ eP=>anv fun _ jv=>adr S 5 [] [(10,.bool (((l.length:Int)) != (m.length:Int)))] fun S=>anu (jv _ _ ?_);refine anx S (fun hc4=>?_) (fun hc4=>?_)
 ·refine anv fun _ bM=>adr S 1 [] [(4,.z)] fun S=>anu<|bM _ _<|anz S results134 ?_;exact⟨aC (nI hc4),S.E⟩
 refine anZ<|eP _ _<|anV fun _ iL=>anv fun _ iZ=>adr S 3 [] [(12,.i l.length),(13,.i 0)] fun S=>anu<|iZ _ _<|an1 ?_;refine aow (ι:=Nat) (fun p a' w'=>p≤l.length∧(l.take p=m.take p)∧Sx.St w a' w' 26 [(0,.slice a l.length cap),(1,.slice d m.length cap'),(4,.z),(12,.i l.length),(13,.i p)] [] []) (fun p=>l.length-p) (0) ⟨aoa _,rfl,S.sn⟩ ?_;rintro k ac u hI;try dsimp only at hI
 obtain⟨hk,hR,S⟩:=hI;refine anv fun _ eu=>adr S 1 [] [(14,.bool ((k:Int)<(l.length:Int)))] fun S=>anu<|eu _ _<|anV (fun _ ig=>?_);refine anx S (fun dn=>?_) (fun dn=>?_)
 ·refine anZ<|ig _ _<|anV fun _ cZ=>an1<|anv fun _ dW=>adr S 2 [] [(5,.i k)] fun S=>anu<|dW _ _<|anV (fun _ iH=>?_);have rY:k<l.length:=by have:=aoe dn; omega
  obtain⟨b15,o16,rfl,x21,CP,Kq,ES⟩:=aom h (fun _=>rfl) (k) rY;have S:=S.view0 Kq ES;have pq:k<m.length:=by have:=lZ hc4; have:=aoe dn; omega
  obtain⟨b23,o24,rfl,y29,hx27,ET,EU⟩:=aom h' (fun _=>rfl) (k) pq;have S:=S.view0 ET EU;refine anI S 9 [.idx k l.length,.mem 1 0,.idx k m.length,.mem 0 0,.cmp .neq 189 (.tmp 19) (.tmp 23) (.agg #[.i x21.o,.u (x21.c.r.toNat:Int),.u (x21.c.g.toNat:Int),.u (x21.c.b.toNat:Int),.u (x21.c.a.toNat:Int)]) (.agg #[.i y29.o,.u (y29.c.r.toNat:Int),.u (y29.c.g.toNat:Int),.u (y29.c.b.toNat:Int),.u (y29.c.a.toNat:Int)]) (.bool (!((x21.o==y29.o)&&(((x21.c.r.toNat:Int)==(y29.c.r.toNat:Int))&&(((x21.c.g.toNat:Int)==(y29.c.g.toNat:Int))&&(((x21.c.b.toNat:Int)==(y29.c.b.toNat:Int))&&((x21.c.a.toNat:Int)==(y29.c.a.toNat:Int))))))))] [] [(24,.bool (!((x21.o==y29.o)&&(((x21.c.r.toNat:Int)==(y29.c.r.toNat:Int))&&(((x21.c.g.toNat:Int)==(y29.c.g.toNat:Int))&&(((x21.c.b.toNat:Int)==(y29.c.b.toNat:Int))&&((x21.c.a.toNat:Int)==(y29.c.a.toNat:Int))))))))] trivial (hk:=⟨rY,pq,anN (fun _=>Yq ..) (by kernel_rfl),trivial⟩) fun ac u zD S=>anu (iH _ _ ?_);refine anx S (fun hc31=>?_) (fun hc31=>?_)
  ·refine anv fun _ mZ=>adr S 1 [] [(4,.z)] fun S=>anu<|mZ _ _<|anz S results134 ?_;exact⟨aC (tJ rY pq (fun e=>by have hq:=hc31; rw[CP,hx27]at e; subst e; simp at hq)),S.E⟩
  refine anZ<|cZ _ _<|an3<|adr S 2 [.re 25 (.i (IntKind.i64.wrap ((k:Int)+1))) (.i (k+1:Nat))] [(13,.i (k+1:Nat))] (hk:=⟨anJ (by omega),trivial⟩) fun S=>anu ?_;show ∃i',_∧_;exact⟨(k+1),⟨by omega,(nJ rY pq hR (by rw[CP,hx27]; exact TU hc31)),S.sn⟩,by show _-_<_-_; omega⟩
 refine aod<|iL _ _<|anv fun _ jO=>adr S 1 [] [(4,.bool true)] fun S=>anu<|jO _ _<|anz S results134 ?_;exact⟨aC (tK (by have:=aoi dn; omega) (lZ hc4) hR),S.E⟩
theorem VG{w:World}{v u:Value}{l m:List bT}(h:aV 4 bT.cells w v l)(h':aV 4 bT.cells w u m) :
  Calls prog 136 #[v,u] w fun e w'=>e = .returned (.bool (l=m))∧Ext w w':=by
 obtain⟨a,cap,rfl⟩:=h.shape;obtain⟨d,cap',rfl⟩:=h'.shape;have hmax:l.length≤9223372036854775807:=h.len;refine anA func136 ntmps136 fun ac S=>anv fun _ aS=>adr S 1 [] [(4,.z)] fun S=>anu<|aS _ _<|anV fun _ eP=>anv fun _ jv=>adr S 5 [] [(10,.bool (((l.length:Int)) != (m.length:Int)))] fun S=>anu (jv _ _ ?_);refine anx S (fun hc4=>?_) (fun hc4=>?_)
 ·refine anv fun _ bM=>adr S 1 [] [(4,.z)] fun S=>anu<|bM _ _<|anz S results136 ?_;exact⟨aC (nI hc4),S.E⟩
 refine anZ<|eP _ _<|anV fun _ iL=>anv fun _ iZ=>adr S 3 [] [(12,.i l.length),(13,.i 0)] fun S=>anu<|iZ _ _<|an1 ?_;refine aow (ι:=Nat) (fun p a' w'=>p≤l.length∧(l.take p=m.take p)∧Sx.St w a' w' 26 [(0,.slice a l.length cap),(1,.slice d m.length cap'),(4,.z),(12,.i l.length),(13,.i p)] [] []) (fun p=>l.length-p) (0) ⟨aoa _,rfl,S.sn⟩ ?_;rintro k ac u hI;try dsimp only at hI
 obtain⟨hk,hR,S⟩:=hI;refine anv fun _ eu=>adr S 1 [] [(14,.bool ((k:Int)<(l.length:Int)))] fun S=>anu<|eu _ _<|anV (fun _ ig=>?_);refine anx S (fun dn=>?_) (fun dn=>?_)
 ·refine anZ<|ig _ _<|anV fun _ cZ=>an1<|anv fun _ dW=>adr S 2 [] [(5,.i k)] fun S=>anu<|dW _ _<|anV (fun _ iH=>?_);have rY:k<l.length:=by have:=aoe dn; omega
  obtain⟨b15,o16,rfl,x21,CP,Kq,ES⟩:=aom h (fun _=>rfl) (k) rY;have S:=S.view0 Kq ES;have pq:k<m.length:=by have:=lZ hc4; have:=aoe dn; omega
  obtain⟨b23,o24,rfl,y29,hx27,ET,EU⟩:=aom h' (fun _=>rfl) (k) pq;have S:=S.view0 ET EU;refine anI S 9 [.idx k l.length,.mem 1 0,.idx k m.length,.mem 0 0,.cmp .neq 192 (.tmp 19) (.tmp 23) (.agg #[.u (x21.r.toNat:Int),.u (x21.g.toNat:Int),.u (x21.b.toNat:Int),.u (x21.a.toNat:Int)]) (.agg #[.u (y29.r.toNat:Int),.u (y29.g.toNat:Int),.u (y29.b.toNat:Int),.u (y29.a.toNat:Int)]) (.bool (!(((x21.r.toNat:Int)==(y29.r.toNat:Int))&&(((x21.g.toNat:Int)==(y29.g.toNat:Int))&&(((x21.b.toNat:Int)==(y29.b.toNat:Int))&&((x21.a.toNat:Int)==(y29.a.toNat:Int)))))))] [] [(24,.bool (!(((x21.r.toNat:Int)==(y29.r.toNat:Int))&&(((x21.g.toNat:Int)==(y29.g.toNat:Int))&&(((x21.b.toNat:Int)==(y29.b.toNat:Int))&&((x21.a.toNat:Int)==(y29.a.toNat:Int)))))))] trivial (hk:=⟨rY,pq,anN (fun _=>adn ..) (by kernel_rfl),trivial⟩) fun ac u zD S=>anu (iH _ _ ?_);refine anx S (fun hc31=>?_) (fun hc31=>?_)
  ·refine anv fun _ mZ=>adr S 1 [] [(4,.z)] fun S=>anu<|mZ _ _<|anz S results136 ?_;exact⟨aC (tJ rY pq (fun e=>by have hq:=hc31; rw[CP,hx27]at e; subst e; simp at hq)),S.E⟩
  refine anZ<|cZ _ _<|an3<|adr S 2 [.re 25 (.i (IntKind.i64.wrap ((k:Int)+1))) (.i (k+1:Nat))] [(13,.i (k+1:Nat))] (hk:=⟨anJ (by omega),trivial⟩) fun S=>anu ?_;show ∃i',_∧_;exact⟨(k+1),⟨by omega,(nJ rY pq hR (by rw[CP,hx27]; exact Qw hc31)),S.sn⟩,by show _-_<_-_; omega⟩
 refine aod<|iL _ _<|anv fun _ jO=>adr S 1 [] [(4,.bool true)] fun S=>anu<|jO _ _<|anz S results136 ?_;exact⟨aC (tK (by have:=aoi dn; omega) (lZ hc4) hR),S.E⟩
theorem VH{w:World}{v u:Value}{l m:List Int}(h:aV 1 (fun x=>[JW x]) w v l)(h':aV 1 (fun x=>[JW x]) w u m) :
  Calls prog 135 #[v,u] w fun e w'=>e = .returned (.bool (l=m))∧Ext w w':=by
 obtain⟨a,cap,rfl⟩:=h.shape;obtain⟨d,cap',rfl⟩:=h'.shape;have hmax:l.length≤9223372036854775807:=h.len;refine anA func135 ntmps135 fun ac S=>anv fun _ aS=>adr S 1 [] [(4,.z)] fun S=>anu<|aS _ _<|anV fun _ eP=>anv fun _ jv=>adr S 5 [] [(10,.bool (((l.length:Int)) != (m.length:Int)))] fun S=>anu (jv _ _ ?_);refine anx S (fun hc4=>?_) (fun hc4=>?_)
 ·refine anv fun _ bM=>adr S 1 [] [(4,.z)] fun S=>anu<|bM _ _<|anz S results135 ?_;exact⟨aC (nI hc4),S.E⟩
 refine anZ<|eP _ _<|anV fun _ iL=>anv fun _ iZ=>adr S 3 [] [(12,.i l.length),(13,.i 0)] fun S=>anu<|iZ _ _<|an1 ?_;refine aow (ι:=Nat) (fun p a' w'=>p≤l.length∧(l.take p=m.take p)∧Sx.St w a' w' 26 [(0,.slice a l.length cap),(1,.slice d m.length cap'),(4,.z),(12,.i l.length),(13,.i p)] [] []) (fun p=>l.length-p) (0) ⟨aoa _,rfl,S.sn⟩ ?_;rintro k ac u hI;try dsimp only at hI
 obtain⟨hk,hR,S⟩:=hI;refine anv fun _ eu=>adr S 1 [] [(14,.bool ((k:Int)<(l.length:Int)))] fun S=>anu<|eu _ _<|anV (fun _ ig=>?_);refine anx S (fun dn=>?_) (fun dn=>?_)
 ·refine anZ<|ig _ _<|anV fun _ cZ=>an1<|anv fun _ dW=>adr S 2 [] [(5,.i k)] fun S=>anu<|dW _ _<|anV (fun _ iH=>?_);have rY:k<l.length:=by have:=aoe dn; omega
  obtain⟨b15,o16,rfl,x21,CP,Kq,ES⟩:=aom h (fun _=>rfl) (k) rY;have S:=S.view0 Kq ES;have pq:k<m.length:=by have:=lZ hc4; have:=aoe dn; omega
  obtain⟨b23,o24,rfl,y29,hx27,ET,EU⟩:=aom h' (fun _=>rfl) (k) pq;have S:=S.view0 ET EU;refine anI S 9 [.idx k l.length,.mem 1 0,.idx k m.length,.mem 0 0] [] [(24,.bool ((x21) != y29))] trivial (hk:=⟨rY,pq,trivial⟩) fun ac u zD S=>anu (iH _ _ ?_);refine anx S (fun hc31=>?_) (fun hc31=>?_)
  ·refine anv fun _ mZ=>adr S 1 [] [(4,.z)] fun S=>anu<|mZ _ _<|anz S results135 ?_;exact⟨aC (tJ rY pq (fun e=>by have hq:=hc31; rw[CP,hx27]at e; subst e; simp at hq)),S.E⟩
  refine anZ<|cZ _ _<|an3<|adr S 2 [.re 25 (.i (IntKind.i64.wrap ((k:Int)+1))) (.i (k+1:Nat))] [(13,.i (k+1:Nat))] (hk:=⟨anJ (by omega),trivial⟩) fun S=>anu ?_;show ∃i',_∧_;exact⟨(k+1),⟨by omega,(nJ rY pq hR (by rw[CP,hx27]; exact Yw hc31)),S.sn⟩,by show _-_<_-_; omega⟩
 refine aod<|iL _ _<|anv fun _ jO=>adr S 1 [] [(4,.bool true)] fun S=>anu<|jO _ _<|anz S results135 ?_;exact⟨aC (tK (by have:=aoi dn; omega) (lZ hc4) hR),S.E⟩
open Go.RowKit
variable{α:Type}
theorem VI(p:bT):(((min (p.r.toNat:Int) (p.a.toNat:Int))==(p.r.toNat:Int))&&(((min (p.g.toNat:Int) (p.a.toNat:Int))==(p.g.toNat:Int))&&(((min (p.b.toNat:Int) (p.a.toNat:Int))==(p.b.toNat:Int))&&((min (p.a.toNat:Int) (p.a.toNat:Int))==(p.a.toNat:Int)))))=p.valid:=by
 have h:∀x y:UInt8,((min (x.toNat:Int) (y.toNat:Int))==(x.toNat:Int))=decide (x≤y):=by
  intro x y; rw[aoR]; simp only[aoo,aov,UInt8.le_iff_toNat_le]; omega
 rw[h,h,h,h]; unfold bT.valid; simp
theorem nM{l:List α}{k:Nat}{p:α→Bool}(hk:l.length≤k)(h:(l.take k).all p=true):l.all p=true:=by rwa [aou hk]at h
theorem vF{l:List α}{k:Nat}{p:α→Bool}(hk:k<l.length)(h:p l[k]=false):l.all p=false:=by
 rw[List.all_eq_false]; exact⟨l[k],aot hk,by simp[h]⟩
theorem kL{l:List α}{k:Nat}{p:α→Bool}(hk:k<l.length)(hR:(l.take k).all p=true)(h:p l[k]=true):(l.take (k+1)).all p=true:=by
 rw[aoZ hk,List.all_append,hR]; simp[h]
theorem CQ{a b:Int}(ha:side a=true)(hb:side b=true):IntKind.i64.wrap (a*b)=a*b:=by
 simp only[side,aoq,aov]at ha hb;have h1:a*b≤4096*4096:=Int.le_trans (Int.mul_le_mul_of_nonneg_right ha.2 (by omega)) (Int.mul_le_mul_of_nonneg_left hb.2 (by omega));have h0:0≤a*b:=Int.mul_nonneg (by omega) (by omega);rw[ap6]; omega
theorem Nv{m:dB}:((((!(side m.w))||(!(side m.h)))||(decide (65536<IntKind.i64.wrap (m.w*m.h))))||((m.l.length:Int) != IntKind.i64.wrap (m.w*m.h)))=((((!(side m.w))||(!(side m.h)))||(decide (65536<(m.w*m.h))))||((m.l.length:Int) != (m.w*m.h))):=by
 cases ha:side m.w<;>cases hb:side m.h<;>simp only[Bool.not_false,Bool.not_true,Bool.true_or,Bool.false_or,Bool.or_true];rw[CQ ha hb]
theorem ad6{m:dB}(h:((((!(side m.w))||(!(side m.h)))||(decide (65536<(m.w*m.h))))||((m.l.length:Int) != (m.w*m.h)))=true):false=m.valid:=by
 unfold dB.valid dB.size;revert h;cases side m.w<;>cases side m.h<;>simp;intro h h1 h2; omega
theorem abP{m:dB}(h:((((!(side m.w))||(!(side m.h)))||(decide (65536<(m.w*m.h))))||((m.l.length:Int) != (m.w*m.h)))=false):(!(!(m.l.all bT.valid)))=m.valid:=by
 unfold dB.valid dB.size;revert h;cases side m.w<;>cases side m.h<;>simp;intro h h1; rw[h1]; simp[h]
theorem ad7{m n:dB}:((m.w==n.w)&&(m.h==n.h)&&decide (m.l=n.l))=m.eq n:=by
 unfold dB.eq;rw[apg];by_cases h:m.l=n.l<;>simp[h]
theorem VJ{l:List fH}(h:((decide ((l.length:Int)<1))||(decide (16<(l.length:Int))))=true):false=fA l:=by
 unfold fA;simp only[apt,aov]at h;rcases h with h | h
 ·rw[apa (by omega)]; rfl
 rw[apa (p:=l.length≤16) (by omega)]; simp
theorem Nw{l:List fH}(h:((decide ((l.length:Int)<1))||(decide (16<(l.length:Int))))=false):fA l=dG 0 l:=by
 unfold fA;simp only[aoP,ao3]at h;rw[aoX (p:=1≤l.length) (by omega),aoX (p:=l.length≤16) (by omega)]; rfl
theorem VK{l:List fH}{k:Nat}{last:Int}(h:((decide ((l.length:Int)<1))||(decide (16<(l.length:Int))))=false)(hk:l.length≤k)(hR:dG 0 l=dG last (l.drop k)):true=fA l:=by
 rw[Nw h,hR,apm hk]; rfl
theorem VN{l:List fH}{k:Nat}{last:Int}(h:((decide ((l.length:Int)<1))||(decide (16<(l.length:Int))))=false)(hk:k<l.length)(hR:dG 0 l=dG last (l.drop k))(hb:((decide (l[k].o<last))||(decide (65536<l[k].o)))=true):false=fA l:=by
 rw[Nw h,hR,ao2 hk,dG];simp only[apt,aov]at hb;rcases hb with hb | hb
 ·rw[apa (by omega)]; rfl
 rw[apa (p:=l[k].o≤65536) (by omega)]; simp
theorem QH{l:List fH}{k:Nat}{last:Int}(hk:k<l.length)(hR:dG 0 l=dG last (l.drop k))(hb:((decide (l[k].o<last))||(decide (65536<l[k].o)))=false):dG 0 l=dG l[k].o (l.drop (k+1)):=by
 rw[hR,ao2 hk,dG];simp only[aoP,ao3]at hb;rw[aoX (p:=last≤l[k].o) (by omega),aoX (p:=l[k].o≤65536) (by omega)]; rfl
theorem vG{w:World}{b:Nat}(p:bT)(x:Int)(hx:Bx w b #[.u (p.r.toNat:Int),.u (p.g.toNat:Int),.u (p.b.toNat:Int),.u (p.a.toNat:Int)]) :
  Calls prog 325 #[.u x,.q b 0] w fun e w'=>e = .returned (.u (min x (p.a.toNat:Int)))∧w=w':=by
 skip;refine anA func325 ntmps325 (fun ac S=>?_);have S:=S.view0 hx.1 (hx.range 0 4 rfl);refine anv fun _ aS=>adr S 1 [] [(3,.u 0)] fun S=>anu<|aS _ _<|anv fun _ eP=>adr S 5 [.mem 0 3,.re 7 (.u (if (p.a.toNat:Int)<x then (p.a.toNat:Int)else x)) (.u (min x (p.a.toNat:Int)))] [(3,.u (min x (p.a.toNat:Int)))] (hk:=⟨Sx.ad8,trivial⟩) fun S=>anu<|eP _ _<|anz S results325 ?_;exact⟨rfl,rfl⟩
theorem YQ{w:World}{b:Nat}(p:bT)(hx:Bx w b #[.u (p.r.toNat:Int),.u (p.g.toNat:Int),.u (p.b.toNat:Int),.u (p.a.toNat:Int)]) :
  Calls prog 324 #[.agg #[.u (p.r.toNat:Int),.u (p.g.toNat:Int),.u (p.b.toNat:Int),.u (p.a.toNat:Int)],.func (.func 325) #[] #[.q b 0]] w fun e w'=>e = .returned (.agg #[.u (min (p.r.toNat:Int) (p.a.toNat:Int)),.u (min (p.g.toNat:Int) (p.a.toNat:Int)),.u (min (p.b.toNat:Int) (p.a.toNat:Int)),.u (min (p.a.toNat:Int) (p.a.toNat:Int))])∧Ext w w':=by
 skip;refine anA func324 ntmps324 (fun ac S=>?_);have S:=S.view0 hx.1 (hx.range 0 4 rfl);refine anv fun _ aS=>anw S 2 p.cells fun ac u b2 E3 hb4 S=>anw S 4 [.u 0,.u 0,.u 0,.u 0] fun ac u b5 E6 hb7 S=>anu<|aS _ _<|anV fun _ eu=>anI S 17 [.mem 1 0,.mem 1 1,.mem 1 2,.mem 1 3] [(_,_,true,.u (min (p.r.toNat:Int) (p.a.toNat:Int))),(_,_,true,.u (min (p.g.toNat:Int) (p.a.toNat:Int))),(_,_,true,.u (min (p.b.toNat:Int) (p.a.toNat:Int))),(_,_,true,.u (min (p.a.toNat:Int) (p.a.toNat:Int)))] [(21,.agg #[.u (min (p.r.toNat:Int) (p.a.toNat:Int)),.u (min (p.g.toNat:Int) (p.a.toNat:Int)),.u (min (p.b.toNat:Int) (p.a.toNat:Int)),.u (min (p.a.toNat:Int) (p.a.toNat:Int))])] ⟨fun u hC g=>anO (vG p (p.r.toNat:Int) (hx.ext (Ext.trans' S.E hC))),fun u hC g=>anO (vG p (p.g.toNat:Int) (hx.ext (Ext.trans' S.E hC))),fun u hC g=>anO (vG p (p.b.toNat:Int) (hx.ext (Ext.trans' S.E hC))),fun u hC g=>anO (vG p (p.a.toNat:Int) (hx.ext (Ext.trans' S.E hC))),trivial⟩ fun ac u E9 S=>anC S 0 (off:=0) (cs:=[.u (min (p.r.toNat:Int) (p.a.toNat:Int)),.u (min (p.g.toNat:Int) (p.a.toNat:Int)),.u (min (p.b.toNat:Int) (p.a.toNat:Int)),.u (min (p.a.toNat:Int) (p.a.toNat:Int))]) rfl fun u C10 S=>anu<|eu _ _<|anS S 0 results324 rfl (v := .agg #[.u (min (p.r.toNat:Int) (p.a.toNat:Int)),.u (min (p.g.toNat:Int) (p.a.toNat:Int)),.u (min (p.b.toNat:Int) (p.a.toNat:Int)),.u (min (p.a.toNat:Int) (p.a.toNat:Int))]) ?_;exact⟨rfl,S.E⟩
theorem QI(p:bT)(w:World) :
  Calls prog 292 #[.agg #[.u (p.r.toNat:Int),.u (p.g.toNat:Int),.u (p.b.toNat:Int),.u (p.a.toNat:Int)]] w fun e w'=>e = .returned (.agg #[.u (min (p.r.toNat:Int) (p.a.toNat:Int)),.u (min (p.g.toNat:Int) (p.a.toNat:Int)),.u (min (p.b.toNat:Int) (p.a.toNat:Int)),.u (min (p.a.toNat:Int) (p.a.toNat:Int))])∧Ext w w':=by
 skip;refine anA func292 ntmps292 fun ac S=>anv fun _ aS=>anw S 1 p.cells fun ac u b2 E3 hb4 S=>anw S 2 [.u 0,.u 0,.u 0,.u 0] fun ac u b5 E6 hb7 S=>anu<|aS _ _<|anv fun _ eu=>adr S 2 [.mem 1 0] [(3,.agg p.cells.toArray),(4,.func (.func 325) #[] #[.q b2 0])] fun S=>anE S 5 (YQ p (S.bx 1)) fun ac u E9 S=>anC S 0 (off:=0) (cs:=[.u (min (p.r.toNat:Int) (p.a.toNat:Int)),.u (min (p.g.toNat:Int) (p.a.toNat:Int)),.u (min (p.b.toNat:Int) (p.a.toNat:Int)),.u (min (p.a.toNat:Int) (p.a.toNat:Int))]) rfl fun u C10 S=>anu<|eu _ _<|anS S 0 results292 rfl (v := .agg #[.u (min (p.r.toNat:Int) (p.a.toNat:Int)),.u (min (p.g.toNat:Int) (p.a.toNat:Int)),.u (min (p.b.toNat:Int) (p.a.toNat:Int)),.u (min (p.a.toNat:Int) (p.a.toNat:Int))]) ?_;exact⟨rfl,S.E⟩
theorem Kr(p:bT)(w:World) :
  Calls prog 249 #[.agg #[.u (p.r.toNat:Int),.u (p.g.toNat:Int),.u (p.b.toNat:Int),.u (p.a.toNat:Int)]] w fun e w'=>e = .returned (.bool p.valid)∧Ext w w':=by
 skip;refine anA func249 ntmps249 fun ac S=>anv fun _ aS=>anw S 1 p.cells fun ac u b2 E3 hb4 S=>adr S 1 [] [(2,.z)] fun S=>anu<|aS _ _<|anV fun _ bM=>anI S 4 [.mem 0 0,.mem 0 0,.cmp .eql 192 (.tmp 4) (.tmp 5) (.agg #[.u (min (p.r.toNat:Int) (p.a.toNat:Int)),.u (min (p.g.toNat:Int) (p.a.toNat:Int)),.u (min (p.b.toNat:Int) (p.a.toNat:Int)),.u (min (p.a.toNat:Int) (p.a.toNat:Int))]) (.agg #[.u (p.r.toNat:Int),.u (p.g.toNat:Int),.u (p.b.toNat:Int),.u (p.a.toNat:Int)]) (.bool (((min (p.r.toNat:Int) (p.a.toNat:Int))==(p.r.toNat:Int))&&(((min (p.g.toNat:Int) (p.a.toNat:Int))==(p.g.toNat:Int))&&(((min (p.b.toNat:Int) (p.a.toNat:Int))==(p.b.toNat:Int))&&((min (p.a.toNat:Int) (p.a.toNat:Int))==(p.a.toNat:Int))))))] [(_,_,true,.agg #[.u (min (p.r.toNat:Int) (p.a.toNat:Int)),.u (min (p.g.toNat:Int) (p.a.toNat:Int)),.u (min (p.b.toNat:Int) (p.a.toNat:Int)),.u (min (p.a.toNat:Int) (p.a.toNat:Int))])] [(6,.bool (((min (p.r.toNat:Int) (p.a.toNat:Int))==(p.r.toNat:Int))&&(((min (p.g.toNat:Int) (p.a.toNat:Int))==(p.g.toNat:Int))&&(((min (p.b.toNat:Int) (p.a.toNat:Int))==(p.b.toNat:Int))&&((min (p.a.toNat:Int) (p.a.toNat:Int))==(p.a.toNat:Int))))))] ⟨fun u hC g=>QI p _,trivial⟩ (hk:=⟨anN (fun _=>ado ..) (by kernel_rfl),trivial⟩) fun ac u E6 S=>adr S 1 [] [(2,.bool (((min (p.r.toNat:Int) (p.a.toNat:Int))==(p.r.toNat:Int))&&(((min (p.g.toNat:Int) (p.a.toNat:Int))==(p.g.toNat:Int))&&(((min (p.b.toNat:Int) (p.a.toNat:Int))==(p.b.toNat:Int))&&((min (p.a.toNat:Int) (p.a.toNat:Int))==(p.a.toNat:Int))))))] fun S=>anu<|bM _ _<|anz S results249 ?_;exact⟨aC (VI p),S.E⟩
theorem QJ(p:bT)(w:World) :
  Calls prog 248 #[.agg #[.u (p.r.toNat:Int),.u (p.g.toNat:Int),.u (p.b.toNat:Int),.u (p.a.toNat:Int)]] w fun e w'=>e = .returned (.bool (!p.valid))∧Ext w w':=by
 skip;refine anA func248 ntmps248 fun ac S=>anv fun _ aS=>anw S 1 p.cells fun ac u b2 E3 hb4 S=>adr S 1 [] [(2,.z)] fun S=>anu<|aS _ _<|anv fun _ bM=>adr S 1 [.mem 0 0] [(3,.agg p.cells.toArray)] fun S=>anE S 4 (Kr p _) fun ac u E6 S=>adr S 2 [] [(2,.bool (!p.valid))] fun S=>anu<|bM _ _<|anz S results248 ?_;exact⟨rfl,S.E⟩
theorem Kt{w:World}{v:Value}{l:List bT}(h:aV 4 bT.cells w v l) :
  Calls prog 291 #[v,.func (.func 248) #[] #[]] w fun e w'=>∃z,e = .returned (.i z)∧decide (0≤z) = !(l.all bT.valid)∧Ext w w':=by
 obtain⟨a,cap,rfl⟩:=h.shape;have hmax:l.length≤9223372036854775807:=h.len;refine anA func291 ntmps291 fun ac S=>anv fun _ aS=>adr S 1 [] [(4,.i 0)] fun S=>anu<|aS _ _<|anV fun _ eP=>anv fun _ jv=>adr S 3 [] [(7,.i l.length),(8,.i 0)] fun S=>anu<|jv _ _<|an1 ?_;refine aow (ι:=Nat) (fun p a' w'=>p≤l.length∧((l.take p).all bT.valid=true)∧Sx.St w a' w' 19 [(0,.slice a l.length cap),(1,.func (.func 248) #[] #[]),(4,.i 0),(7,.i l.length),(8,.i p)] [] []) (fun p=>l.length-p) (0) ⟨aoa _,rfl,S.sn⟩ ?_;rintro k ac u hI;try dsimp only at hI
 obtain⟨hk,hR,S⟩:=hI;refine anv fun _ oq=>adr S 1 [] [(9,.bool ((k:Int)<(l.length:Int)))] fun S=>anu<|oq _ _<|anV (fun _ bM=>?_);refine anx S (fun hc6=>?_) (fun hc6=>?_)
 ·refine anZ<|bM _ _<|anV fun _ iZ=>an1<|anv fun _ eu=>adr S 2 [] [(5,.i k)] fun S=>anu<|eu _ _<|anv (fun _ ig=>?_);have qX:k<l.length:=by have:=aoe hc6; omega
  obtain⟨b10,o11,rfl,x16,wG,Ku,EW⟩:=aom h (fun _=>rfl) (k) qX;have S:=S.view0 Ku EW;refine adr S 5 [.idx k l.length,.mem 0 0] [(11,.func (.func 248) #[] #[]),(15,.agg x16.cells.toArray)] (hk:=⟨qX,trivial⟩) fun S=>anE S 16 (QJ x16 _) fun ac u uY S=>anu (ig _ _ ?_);refine anx S (fun hc19=>?_) (fun hc19=>?_)
  ·refine anv fun _ jk=>adr S 2 [] [(4,.i k)] fun S=>anu<|jk _ _<|anz S results291 ?_;exact⟨_,rfl,by rw[vF qX (by rw[wG]; simpa using hc19)]; simp,S.E⟩
  refine anZ<|iZ _ _<|an3<|adr S 2 [.re 18 (.i (IntKind.i64.wrap ((k:Int)+1))) (.i (k+1:Nat))] [(8,.i (k+1:Nat))] (hk:=⟨anJ (by omega),trivial⟩) fun S=>anu ?_;show ∃i',_∧_;exact⟨(k+1),⟨by omega,(kL qX hR (by rw[wG]; simpa using hc19)),S.sn⟩,by show _-_<_-_; omega⟩
 refine aod<|eP _ _<|anv fun _ jC=>adr S 1 [] [(4,.i (-1))] fun S=>anu<|jC _ _<|anz S results291 ?_;exact⟨_,rfl,by rw[nM (by have:=aoi hc6; omega) hR]; rfl,S.E⟩
theorem Ny{w:World}{v:Value}{l:List bT}(h:aV 4 bT.cells w v l) :
  Calls prog 247 #[v,.func (.func 248) #[] #[]] w fun e w'=>e = .returned (.bool (!(l.all bT.valid)))∧Ext w w':=by
 skip;refine anA func247 ntmps247 fun ac S=>anv fun _ aS=>adr S 1 [] [(4,.z)] fun S=>anu<|aS _ _<|anv fun _ eP=>adr S 2 [] [(5,v),(6,.func (.func 248) #[] #[])] fun S=>anB S (some 7) (Kt (h.below S.E)) ?_;rintro e u ⟨z,rfl,hz,E3⟩;refine⟨_,rfl,E3,fun ac S=>?_⟩;refine adr S 2 [] [(4,.bool (0≤z))] fun S=>anu<|eP _ _<|anz S results247 ?_;exact⟨aC hz,S.E⟩
theorem Nz(n:Int)(w:World) :
  Calls prog 246 #[.i n] w fun e w'=>e = .returned (.bool (side n))∧w=w':=by
 skip;refine anA func246 ntmps246 fun ac S=>anv fun _ aS=>adr S 1 [] [(2,.z)] fun S=>anu<|aS _ _<|anv fun _ eP=>adr S 7 [] [(2,.bool ((decide (1≤n))&&(decide (n≤4096))))] fun S=>anu<|eP _ _<|anz S results246 ?_;exact⟨rfl,rfl⟩
theorem AA{w:World}{m:dB}(h:m.ok w) :
  Calls prog 193 #[m.v] w fun e w'=>e = .returned (.bool m.valid)∧Ext w w':=by
 obtain⟨a,cap,hs⟩:=h.2.2.shape;unfold dB.v;have hq:=h.2.2;rw[hs];rw[hs]at hq;refine anA func193 ntmps193 fun ac S=>anv fun _ aS=>anw S 1 [.i m.w,.i m.h,.slice a m.l.length cap] fun ac u b2 E3 hb4 S=>adr S 1 [] [(2,.z)] fun S=>anu<|aS _ _<|anv fun _ bM=>adr S 1 [] [(3,.func (.func 246) #[] #[])] fun S=>anu<|bM _ _<|anV fun _ iL=>anv fun _ iZ=>adr S 3 [.mem 0 0] [(4,.func (.func 246) #[] #[]),(6,.i m.w)] fun S=>anX S 7 (Nz m.w _) fun ac S=>anK S 27 [.mem 0 1,.mem 0 0,.mem 0 1,.mem 0 2,.mem 0 0,.mem 0 1] [(_,_,(!(!(side m.w))),.bool (side m.h))] [(34,.bool ((((!(side m.w))||(!(side m.h)))||(decide (65536<(IntKind.i64.wrap (m.w*m.h)))))||(((m.l.length:Int)) != (IntKind.i64.wrap (m.w*m.h)))))] ⟨fun u hC g=>anO (Nz m.h _),trivial⟩ fun ac u E8 S=>anu (iZ _ _ ?_);refine anx S (fun VO=>?_) (fun VO=>?_)
 ·refine anv fun _ eX=>adr S 1 [] [(2,.z)] fun S=>anu<|eX _ _<|anz S results193 ?_;exact⟨aC (ad6 (Nv▸VO)),S.E⟩
 refine anZ<|iL _ _<|anv fun _ cZ=>adr S 2 [.mem 0 2] [(36,.slice a m.l.length cap)] fun S=>anE S 37 (Ny (hq.below S.E)) fun ac u wE S=>adr S 2 [] [(2,.bool (!(!(m.l.all bT.valid))))] fun S=>anu<|cZ _ _<|anz S results193 ?_;exact⟨aC (abP (Nv▸VO)),S.E⟩
theorem vH{w:World}{m n:dB}(h:m.ok w)(h':n.ok w) :
  Calls prog 73 #[m.v,n.v] w fun e w'=>e = .returned (.bool (m.eq n))∧Ext w w':=by
 skip;refine anA func73 ntmps73 fun ac S=>anv fun _ aS=>anw S 2 m.cells fun ac u b2 E3 hb4 S=>anw S 3 n.cells fun ac u b5 E6 hb7 S=>adr S 1 [] [(4,.z)] fun S=>anu<|aS _ _<|anv fun _ eu=>anK S 20 [.mem 1 0,.mem 0 0,.mem 1 1,.mem 0 1,.mem 1 2,.mem 0 2] [(_,_,(((m.w)==n.w)&&((m.h)==n.h)),.bool (m.l=n.l))] [(4,.bool ((((m.w)==n.w)&&((m.h)==n.h))&&(decide (m.l=n.l))))] ⟨fun u hC g=>VG (h.2.2.below (Ext.trans' S.E hC)) (h'.2.2.below (Ext.trans' S.E hC)),trivial⟩ fun ac u E9 S=>anu<|eu _ _<|anz S results73 ?_;exact⟨aC ad7,S.E⟩
theorem Iw{w:World}{v:Value}{l:List fH}(h:aV 5 fH.cells w v l) :
  Calls prog 346 #[v] w fun e w'=>e = .returned (.bool (fA l))∧Ext w w':=by
 obtain⟨a,cap,rfl⟩:=h.shape;have hmax:l.length≤9223372036854775807:=h.len;refine anA func346 ntmps346 fun ac S=>anv fun _ aS=>adr S 1 [] [(2,.z)] fun S=>anu<|aS _ _<|anV fun _ eP=>anv fun _ jv=>adr S 8 [] [(13,.bool ((decide ((l.length:Int)<1))||(decide (16<(l.length:Int)))))] fun S=>anu (jv _ _ ?_);refine anx S (fun hc4=>?_) (fun hc4=>?_)
 ·refine anv fun _ bM=>adr S 1 [] [(2,.z)] fun S=>anu<|bM _ _<|anz S results346 ?_;exact⟨aC (VJ hc4),S.E⟩
 refine anZ<|eP _ _<|anv fun _ iL=>adr S 1 [] [(3,.i 0)] fun S=>anu<|iL _ _<|anV fun _ iZ=>anv fun _ eu=>adr S 3 [] [(14,.slice a l.length cap),(15,.i l.length),(16,.i 0)] fun S=>anu<|eu _ _<|an1 ?_;refine aow (ι:=Nat×Int) (fun p a' w'=>p.1≤l.length∧(dG 0 l=dG p.2 (l.drop p.1))∧Sx.St w a' w' 32 [(0,.slice a l.length cap),(2,.z),(3,.i p.2),(14,.slice a l.length cap),(15,.i l.length),(16,.i p.1)] [] []) (fun p=>l.length-p.1) (0,0) ⟨aoa _,rfl,S.sn⟩ ?_;rintro⟨k,last⟩ ac u hI;try dsimp only at hI
 obtain⟨hk,hR,S⟩:=hI;refine anv fun _ ig=>adr S 1 [] [(17,.bool ((k:Int)<(l.length:Int)))] fun S=>anu<|ig _ _<|anV (fun _ eX=>?_);refine anx S (fun jB=>?_) (fun jB=>?_)
 ·refine anZ<|eX _ _<|anV fun _ dW=>an1<|anv (fun _ iH=>?_);have kP:k<l.length:=by have:=aoe jB; omega
  obtain⟨b14,o15,rfl,x20,qJ,wK,CB⟩:=aom h (fun _=>rfl) (k) kP;have S:=S.view0 wK CB;refine adr S 2 [.idx k l.length,.mem 0 0] [(19,.agg x20.cells.toArray)] (hk:=⟨kP,trivial⟩) fun S=>anw S 5 [.i 0,.u 0,.u 0,.u 0,.u 0] fun ac u b22 CJ QK S=>anC S 0 (off:=0) (cs:=x20.cells) rfl fun u X6 S=>anu<|iH _ _<|anV fun _ jf=>anv fun _ jX=>adr S 9 [.mem 0 0,.mem 0 0] [(28,.bool ((decide (x20.o<last))||(decide (65536<x20.o))))] fun S=>anu (jX _ _ ?_);refine anx S (fun hc28=>?_) (fun hc28=>?_)
  ·refine anv fun _ oP=>adr S 1 [] [(2,.z)] fun S=>anu<|oP _ _<|anz S results346 ?_;exact⟨aC (VN hc4 kP hR (by rw[qJ]; exact hc28)),S.E⟩
  refine anZ<|jf _ _<|an3<|adr S 3 [.mem 0 0] [(3,.i x20.o)] fun S=>anu<|dW _ _<|an3<|adr S 2 [.re 31 (.i (IntKind.i64.wrap ((k:Int)+1))) (.i (k+1:Nat))] [(16,.i (k+1:Nat))] (hk:=⟨anJ (by omega),trivial⟩) fun S=>anu ?_;show ∃i',_∧_;exact⟨((k+1),x20.o),⟨by omega,(by rw[←qJ]; exact QH kP hR (by rw[qJ]; exact hc28)),(S.sub [(0,.slice (some ⟨b14,o15,none⟩) l.length cap),(2,.z),(3,.i x20.o),(14,.slice (some ⟨b14,o15,none⟩) l.length cap),(15,.i l.length),(16,.i (k+1:Nat))]).lN.gq 1⟩,by show _-_<_-_; omega⟩
 refine aod<|iZ _ _<|anv fun _ mM=>adr S 1 [] [(2,.bool true)] fun S=>anu<|mM _ _<|anz S results346 ?_;exact⟨aC (VK hc4 (by have:=aoi jB; omega) hR),S.E⟩
theorem YR(n:Int)(w:World) :
  Calls prog 191 #[.i n] w fun e w'=>e = .returned (.bool (decide (1≤n)&&decide (n≤13)))∧w=w':=by
 skip;refine anA func191 ntmps191 fun ac S=>anv fun _ aS=>adr S 1 [] [(2,.z)] fun S=>anu<|aS _ _<|anv fun _ eP=>adr S 7 [] [(2,.bool ((decide (1≤n))&&(decide (n≤13))))] fun S=>anu<|eP _ _<|anz S results191 ?_;exact⟨rfl,rfl⟩
theorem EX(n:Int)(w:World) :
  Calls prog 323 #[.i n] w fun e w'=>e = .returned (.bool (jc n))∧w=w':=by
 skip;refine anA func323 ntmps323 fun ac S=>anv fun _ aS=>adr S 1 [] [(2,.z)] fun S=>anu<|aS _ _<|anv fun _ eP=>adr S 7 [] [(2,.bool ((decide (1≤n))&&(decide (n≤3))))] fun S=>anu<|eP _ _<|anz S results323 ?_;exact⟨rfl,rfl⟩
theorem YS(n:Int)(w:World) :
  Calls prog 286 #[.i n] w fun e w'=>e = .returned (.bool (decide (1≤n)&&decide (n≤16384)))∧w=w':=by
 skip;refine anA func286 ntmps286 fun ac S=>anv fun _ aS=>adr S 1 [] [(2,.z)] fun S=>anu<|aS _ _<|anv fun _ eP=>adr S 7 [] [(2,.bool ((decide (1≤n))&&(decide (n≤16384))))] fun S=>anu<|eP _ _<|anz S results286 ?_;exact⟨rfl,rfl⟩
open Go.RowKit
variable{α:Type}
def oC(l s:List Int):Option Bool:=if s.all (fun x=>decide (0≤x)&&decide (x≤1048576))then some (((l.length:Int)==0)||s.any (fun x=>decide (0<x)))else none
def mg(l:List Int):Bool:=l.all (fun x=>decide (0≤x)&&decide (x≤1048576))&&((((((l.length:Int)==0)||l.any (fun x=>decide (0<x)))&&((Int.tmod (l.length:Int) 2)==0))&&(decide ((l.length:Int)≤16))))
theorem Jf(l:List Int):oC l (l.take 0)=some ((l.length:Int)==0):=by simp[oC]
theorem Jg{l:List Int}{k:Nat}{any:Bool}(hk:k<l.length)(hR:oC l (l.take k)=some any)(hb:((decide (l[k]<0))||(decide (1048576<l[k])))=false):oC l (l.take (k+1))=some (any||(decide (0<l[k]))):=by
 unfold oC at hR ⊢;rw[aoZ hk,List.all_append,List.any_append];simp only[aoP,ao3]at hb;split at hR
 ·rename_i h;obtain rfl:=aof hR;rw[h];simp[show 0≤l[k] by omega,show l[k]≤1048576 by omega,Bool.or_assoc]
 cases hR
theorem NC{l:List Int}{k:Nat}{any:Bool}(hk:k<l.length)(hR:oC l (l.take k)=some any)(hb:((decide (l[k]<0))||(decide (1048576<l[k])))=true):false=mg l:=by
 simp only[apt,aov]at hb;unfold mg;rw[vF hk (by simp; omega)]; rfl
theorem ND{l:List Int}{k:Nat}{any:Bool}(hk:l.length≤k)(hR:oC l (l.take k)=some any):((any&&((Int.tmod (l.length:Int) 2)==0))&&(decide ((l.length:Int)≤16)))=mg l:=by
 unfold oC at hR;rw[aou hk]at hR;split at hR
 ·rename_i h;obtain rfl:=aof hR;unfold mg;rw[h]; rfl
 cases hR
def dN(b:Bool)(n:Int):Value:=if b=true then .iface 180 (.agg #[.i n,.nilIface])else .nilIface
theorem VP{b:Bool}{n:Int}{x:Operand}:∀w,(do eqGuard .neq 177 x (.const .nilIface) (dN b n) .nilIface; binOp .neq 177 (dN b n) .nilIface:Sem Value).run prog w = .ok (.bool (!(!b))) w:=fun w=>by
 cases b<;>simp[dN,go_sem]
def kR:List (Bool×Int)→Value
 | [] => .nilIface
 | p::l=>if p.1=true then .iface 180 (.agg #[.i 0,.iface 180 (.agg #[.i p.2,.nilIface])])else kR l
theorem QL{w:World}{v:Value}{l:List Int}(h:dS JW w v l) :
  Calls prog 287 #[v] w fun e w'=>e = .returned (.bool (mg l))∧Ext w w':=by
 obtain⟨a,cap,rfl⟩:=(mJ h).shape;have hmax:l.length≤9223372036854775807:=(mJ h).len;refine anA func287 ntmps287 fun ac S=>anv fun _ aS=>adr S 1 [] [(2,.z)] fun S=>anu<|aS _ _<|anv fun _ eP=>adr S 4 [] [(3,.bool (((l.length:Int))==0))] fun S=>anu<|eP _ _<|anV fun _ jv=>anv fun _ oq=>adr S 3 [] [(9,.slice a l.length cap),(10,.i l.length),(11,.i 0)] fun S=>anu<|oq _ _<|an1 ?_;refine aow (ι:=Nat×Bool) (fun p a' w'=>p.1≤l.length∧(oC l (l.take p.1)=some p.2)∧Sx.St w a' w' 39 [(0,.slice a l.length cap),(2,.z),(3,.bool p.2),(9,.slice a l.length cap),(10,.i l.length),(11,.i p.1)] [] []) (fun p=>l.length-p.1) (0,((l.length:Int)==0)) ⟨aoa _,Jf l,S.sn⟩ ?_;rintro⟨k,any⟩ ac u hI;try dsimp only at hI
 obtain⟨hk,hR,S⟩:=hI;refine anv fun _ bM=>adr S 1 [] [(12,.bool ((k:Int)<(l.length:Int)))] fun S=>anu<|bM _ _<|anV (fun _ iL=>?_);refine anx S (fun mG=>?_) (fun mG=>?_)
 ·refine anZ<|iL _ _<|anV fun _ eu=>an1<|anv (fun _ ig=>?_);have qX:k<l.length:=by have:=aoe mG; omega
  obtain⟨b10,o11,rfl,x16,wG,Ku,EW⟩:=aom (mJ h) (fun _=>rfl) (k) qX;have S:=S.view0 Ku EW;refine adr S 3 [.idx k l.length,.mem 0 0] [(5,.i x16)] (hk:=⟨qX,trivial⟩) fun S=>anu<|ig _ _<|anV fun _ iI=>anv fun _ iU=>adr S 6 [] [(20,.bool ((decide (x16<0))||(decide (1048576<x16))))] fun S=>anu (iU _ _ ?_);refine anx S (fun kJ=>?_) (fun kJ=>?_)
  ·refine anv fun _ jC=>adr S 1 [] [(2,.z)] fun S=>anu<|jC _ _<|anz S results287 ?_;exact⟨aC (NC qX hR (by rw[wG]; exact kJ)),S.E⟩
  refine anZ<|iI _ _<|an3<|adr S 6 [] [(3,.bool (any||(decide (0<x16))))] fun S=>anu<|eu _ _<|an3<|adr S 2 [.re 26 (.i (IntKind.i64.wrap ((k:Int)+1))) (.i (k+1:Nat))] [(11,.i (k+1:Nat))] (hk:=⟨anJ (by omega),trivial⟩) fun S=>anu ?_;show ∃i',_∧_;exact⟨((k+1),any||(decide (0<x16))),⟨by omega,(by rw[←wG]; exact Jg qX hR (by rw[wG]; exact kJ)),S.sn⟩,by show _-_<_-_; omega⟩
 refine aod<|jv _ _<|anv fun _ jA=>adr S 13 [] [(2,.bool ((any&&(((Int.tmod (l.length:Int) 2))==0))&&(decide ((l.length:Int)≤16))))] fun S=>anu<|jA _ _<|anz S results287 ?_;exact⟨aC (ND (by have:=aoi mG; omega) hR),S.E⟩
def bC.valid(p:bC):Bool:=(((((((decide (1≤p.width)&&decide (p.width≤16384))&&((((p.join)==1)||((p.join)==2))||((p.join)==3)))&&((((p.cap)==3)||((p.cap)==4))||((p.cap)==5)))&&(decide (256≤p.dZ)))&&(decide (p.dZ≤65536)))&&(mg p.dash))&&(decide (0≤p.phase)))&&(decide (p.phase≤1048576))
def bC.eq(p q:bC):Bool:=((((((p.width)==q.width)&&((p.join)==q.join))&&((p.cap)==q.cap))&&((p.dZ)==q.dZ))&&((p.phase)==q.phase))&&(decide (p.dash=q.dash))
theorem VQ{w:World}{p:bC}(h:p.ok w) :
  Calls prog 244 #[p.v] w fun e w'=>e = .returned (.bool p.valid)∧Ext w w':=by
 skip;refine anA func244 ntmps244 fun ac S=>anv fun _ aS=>anw S 1 p.cells fun ac u b2 E3 hb4 S=>adr S 1 [] [(2,.z)] fun S=>anu<|aS _ _<|anv fun _ bM=>adr S 14 [.mem 0 1,.mem 0 1,.mem 0 1] [(3,.bool ((((p.join)==1)||((p.join)==2))||((p.join)==3)))] fun S=>anu<|bM _ _<|anv fun _ iL=>adr S 14 [.mem 0 2,.mem 0 2,.mem 0 2] [(4,.bool ((((p.cap)==3)||((p.cap)==4))||((p.cap)==5)))] fun S=>anu<|iL _ _<|anv fun _ iZ=>adr S 2 [.mem 0 0] [(32,.i p.width)] fun S=>anX S 33 (YS p.width _) fun ac S=>anK S 32 [.mem 0 3,.mem 0 3,.mem 0 4,.mem 0 5,.mem 0 5] [(_,_,(((((decide (1≤p.width)&&decide (p.width≤16384))&&((((p.join)==1)||((p.join)==2))||((p.join)==3)))&&((((p.cap)==3)||((p.cap)==4))||((p.cap)==5)))&&(decide (256≤p.dZ)))&&(decide (p.dZ≤65536))),.bool (mg p.dash))] [(2,.bool ((((((((decide (1≤p.width)&&decide (p.width≤16384))&&((((p.join)==1)||((p.join)==2))||((p.join)==3)))&&((((p.cap)==3)||((p.cap)==4))||((p.cap)==5)))&&(decide (256≤p.dZ)))&&(decide (p.dZ≤65536)))&&(mg p.dash))&&(decide (0≤p.phase)))&&(decide (p.phase≤1048576))))] ⟨fun u hC g=>QL (h.2.2.2.2.1.below (Ext.trans' S.E hC)),trivial⟩ fun ac u E8 S=>anu<|iZ _ _<|anz S results244 ?_;exact⟨rfl,S.E⟩
theorem wM{w:World}{p q:bC}(h:p.ok w)(h':q.ok w) :
  Calls prog 72 #[p.v,q.v] w fun e w'=>e = .returned (.bool (p.eq q))∧Ext w w':=by
 skip;refine anA func72 ntmps72 fun ac S=>anv fun _ aS=>anw S 2 p.cells fun ac u b2 E3 hb4 S=>anw S 3 q.cells fun ac u b5 E6 hb7 S=>adr S 1 [] [(4,.z)] fun S=>anu<|aS _ _<|anv fun _ eu=>anK S 41 [.mem 1 0,.mem 0 0,.mem 1 1,.mem 0 1,.mem 1 2,.mem 0 2,.mem 1 3,.mem 0 3,.mem 1 5,.mem 0 5,.mem 1 4,.mem 0 4] [(_,_,((((((p.width)==q.width)&&((p.join)==q.join))&&((p.cap)==q.cap))&&((p.dZ)==q.dZ))&&((p.phase)==q.phase)),.bool (p.dash=q.dash))] [(4,.bool (((((((p.width)==q.width)&&((p.join)==q.join))&&((p.cap)==q.cap))&&((p.dZ)==q.dZ))&&((p.phase)==q.phase))&&(decide (p.dash=q.dash))))] ⟨fun u hC g=>VH (mJ (h.2.2.2.2.1.below (Ext.trans' S.E hC))) (mJ (h'.2.2.2.2.1.below (Ext.trans' S.E hC))),trivial⟩ fun ac u E9 S=>anu<|eu _ _<|anz S results72 ?_;exact⟨rfl,S.E⟩
theorem NH(n:Int)(w:World) :
  Calls prog 184 #[.i n] w fun e w'=>e = .returned (.bool ((n==1)||(n==2)))∧w=w':=by
 skip;refine anA func184 ntmps184 fun ac S=>anv fun _ aS=>adr S 1 [] [(2,.z)] fun S=>anu<|aS _ _<|anv fun _ eP=>adr S 7 [] [(2,.bool (((n)==1)||((n)==2)))] fun S=>anu<|eP _ _<|anz S results184 ?_;exact⟨rfl,rfl⟩
theorem jm(b:Bool)(n:Int)(w:World) :
  Calls prog 186 #[.bool b,.i n] w fun e w'=>e = .returned (dN b n)∧w=w':=by
 skip;refine anA func186 ntmps186 fun ac S=>anv fun _ aS=>adr S 1 [] [(4,.nilIface)] fun S=>anu<|aS _ _<|anV fun _ eP=>anv fun _ jv=>adr S 2 [] [(6,.bool (!b))] fun S=>anu (jv _ _ ?_);refine anx S (fun hc4=>?_) (fun hc4=>?_)
 ·refine anv fun _ bM=>adr S 1 [] [(4,.nilIface)] fun S=>anu<|bM _ _<|anz S results186 ?_;obtain rfl:b=false:=by simpa using hc4
  exact⟨rfl,rfl⟩
 refine anZ<|eP _ _<|anv fun _ iL=>adr S 4 [] [(4,.iface 180 (.agg #[.i n,.nilIface]))] fun S=>anu<|iL _ _<|anz S results186 ?_;obtain rfl:b=true:=by simpa using hc4
 exact⟨rfl,rfl⟩
theorem first_any{w:World}{v:Value}{l:List (Bool×Int)}(h:aV 1 (fun p=>[dN p.1 p.2]) w v l) :
  Calls prog 185 #[v] w fun e w'=>e = .returned (kR l)∧Ext w w':=by
 obtain⟨a,cap,rfl⟩:=h.shape;have hmax:l.length≤9223372036854775807:=h.len;refine anA func185 ntmps185 fun ac S=>anv fun _ aS=>adr S 1 [] [(2,.nilIface)] fun S=>anu<|aS _ _<|anV fun _ eP=>anv fun _ jv=>adr S 3 [] [(5,.slice a l.length cap),(6,.i l.length),(7,.i 0)] fun S=>anu<|jv _ _<|an1 ?_;refine aow (ι:=Nat) (fun p a' w'=>p≤l.length∧(kR l=kR (l.drop p))∧Sx.St w a' w' 17 [(0,.slice a l.length cap),(2,.nilIface),(5,.slice a l.length cap),(6,.i l.length),(7,.i p)] [] []) (fun p=>l.length-p) (0) ⟨aoa _,rfl,S.sn⟩ ?_;rintro k ac u hI;try dsimp only at hI
 obtain⟨hk,hR,S⟩:=hI;refine anv fun _ oq=>adr S 1 [] [(8,.bool ((k:Int)<(l.length:Int)))] fun S=>anu<|oq _ _<|anV (fun _ bM=>?_);refine anx S (fun hc6=>?_) (fun hc6=>?_)
 ·refine anZ<|bM _ _<|anV fun _ iZ=>an1<|anv (fun _ eu=>?_);have fZ:k<l.length:=by have:=aoe hc6; omega
  obtain⟨b9,o10,rfl,x15,jy,hb16,rV⟩:=aom h (fun _=>rfl) (k) fZ;have S:=S.view0 hb16 rV;refine adr S 3 [.idx k l.length,.mem 0 0] [(4,dN x15.1 x15.2)] (hk:=⟨fZ,trivial⟩) fun S=>anu<|eu _ _<|anv fun _ gV=>adr S 2 [.cmp .neq 177 (.tmp 11) (.const .nilIface) (dN x15.1 x15.2) .nilIface (.bool (!(!x15.1)))] [(12,.bool (!(!x15.1)))] (hk:=⟨VP,trivial⟩) fun S=>anu (gV _ _ ?_);refine anx S (fun hc18=>?_) (fun hc18=>?_)
  ·have hb:x15.1=true:=by simpa using hc18
   rw[show dN x15.1 x15.2 = .iface 180 (.agg #[.i x15.2,.nilIface])from an6 hb]at S;refine anv fun _ iU=>adr S 4 [] [(2,.iface 180 (.agg #[.i 0,.iface 180 (.agg #[.i x15.2,.nilIface])]))] fun S=>anu<|iU _ _<|anz S results185 ?_;exact⟨by rw[hR,ao2 fZ,jy,kR,an6 hb],S.E⟩
  refine anZ<|iZ _ _<|an3<|adr S 2 [.re 16 (.i (IntKind.i64.wrap ((k:Int)+1))) (.i (k+1:Nat))] [(7,.i (k+1:Nat))] (hk:=⟨anJ (by omega),trivial⟩) fun S=>anu ?_;show ∃i',_∧_;exact⟨(k+1),⟨by omega,(by rw[hR,ao2 fZ,jy,kR,an0 (by simpa using hc18)]),S.sn⟩,by show _-_<_-_; omega⟩
 refine aod<|eP _ _<|anv fun _ jk=>adr S 1 [] [(2,.nilIface)] fun S=>anu<|jk _ _<|anz S results185 ?_;exact⟨by rw[hR,apm (by have:=aoi hc6; omega)]; rfl,S.E⟩
end Go.Proofs.YtapmgonflgahbaaGreatDoor
