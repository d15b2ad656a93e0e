/- slices.Equal of the rows that nodes hold. -/
import Derived.Test.YtapmgonflgahbaaGreatDoorPath
set_option linter.unusedVariables false
set_option maxHeartbeats 1600000
set_option maxRecDepth 100000
namespace Go.Proofs.YtapmgonflgahbaaGreatDoor
open _root_.Go.Proofs.Tryz
open Go.RowKit
variable{α:Type}
theorem aH{a b:Bool}(h:a=b):Ending.returned (.bool a) = .returned (.bool b):=by rw[h]
theorem kJ [DecidableEq α]{l m:List α}(h:((l.length:Int) != (m.length:Int))=true):false=decide (l=m):=by
 have h1:l≠m:=fun e=>by subst e; simp at h
 simp[h1]
theorem jS{l m:List α}(h:((l.length:Int) != (m.length:Int))=false):l.length=m.length:=by simp at h; omega
theorem oU [DecidableEq α]{l m:List α}{k:Nat}(hk:l.length≤k)(h:l.length=m.length)(hR:l.take k=m.take k):true=decide (l=m):=by
 rw[aiC hk,aiC (by omega)]at hR; simp[hR]
theorem oQ [DecidableEq α]{l m:List α}{k:Nat}(h1:k<l.length)(h2:k<m.length)(h:l[k]≠m[k]):false=decide (l=m):=by
 have h1:l≠m:=fun e=>by subst e; exact h rfl
 simp[h1]
theorem kK{l m:List α}{k:Nat}(h1:k<l.length)(h2:k<m.length)(hR:l.take k=m.take k)(h:l[k]=m[k]):l.take (k+1)=m.take (k+1):=by
 rw[ajc h1,ajc h2,hR,h]
theorem TR{x y:eG}(h:(!((x.verb==y.verb)&&((x.a.x==y.a.x)&&((x.a.y==y.a.y)&&((x.b.x==y.b.x)&&((x.b.y==y.b.y)&&((x.c.x==y.c.x)&&(x.c.y==y.c.y))))))))=false):x=y:=by
 obtain⟨v,⟨a,b⟩,⟨c,d⟩,⟨e,f⟩⟩:=x;obtain⟨v',⟨a',b'⟩,⟨c',d'⟩,⟨e',f'⟩⟩:=y;simp at h ⊢; omega
theorem AV{a b:UInt8}(h:(a.toNat:Int)=(b.toNat:Int)):a=b:=UInt8.toNat_inj.1 (by omega)
theorem KJ{x y:dA}(h:(!(((x.r.toNat:Int)==y.r.toNat)&&(((x.g.toNat:Int)==y.g.toNat)&&(((x.b.toNat:Int)==y.b.toNat)&&((x.a.toNat:Int)==y.a.toNat)))))=false):x=y:=by
 obtain⟨a,b,c,d⟩:=x;obtain⟨a',b',c',d'⟩:=y;simp only[ajn,aiq,aiv]at h;rw[AV h.1,AV h.2.1,AV h.2.2.1,AV h.2.2.2]
theorem NR{x y:eY}(h:(!((x.o==y.o)&&(((x.c.r.toNat:Int)==y.c.r.toNat)&&(((x.c.g.toNat:Int)==y.c.g.toNat)&&(((x.c.b.toNat:Int)==y.c.b.toNat)&&((x.c.a.toNat:Int)==y.c.a.toNat))))))=false):x=y:=by
 obtain⟨o,c⟩:=x;obtain⟨o',c'⟩:=y;simp only[ajn,aiq,aiv]at h;have:c=c':=KJ (by simp only[ajn,aiq,aiv]; exact h.2);rw[h.1,this]
theorem Ub{x y:Int}(h:(x != y)=false):x=y:=by simpa using h
theorem Qg{w:World}{v u:Value}{l m:List eG}(h:aN 7 eG.cells w v l)(h':aN 7 eG.cells w u m) :
  Calls prog 133 #[v,u] w fun e w'=>e = .returned (.bool (l=m))∧Ext w w':=by
 obtain⟨a,cap,rfl⟩:=h.shape;obtain⟨d,cap',rfl⟩:=h'.shape;have hmax:l.length≤9223372036854775807:=h.len;refine ahO func133 ntmps133 fun ac S=>ahK fun _ aY=>adr S 1 [] [(4,.z)] fun S=>ahJ<|aY _ _<|ah2 fun _ fA=>ahK fun _ jw=>adr S 5 [] [(10,.bool (((l.length:Int)) != (m.length:Int)))] fun S=>ahJ (jw _ _ ?_);refine ahN S (fun hc4=>?_) (fun hc4=>?_)
 ·refine ahK fun _ dw=>adr S 1 [] [(4,.z)] fun S=>ahJ<|dw _ _<|ahM S results133 ?_;exact⟨aH (kJ hc4),S.E⟩
 refine ah4<|fA _ _<|ah2 fun _ iT=>ahK fun _ iL=>adr S 3 [] [(12,.i l.length),(13,.i 0)] fun S=>ahJ<|iL _ _<|ah5 ?_;refine aiM (ι:=Nat) (fun p a' w'=>p≤l.length∧(l.take p=m.take p)∧Sx.St w a' w' 26 [(0,.slice a l.length cap),(1,.slice d m.length cap'),(4,.z),(12,.i l.length),(13,.i p)] [] []) (fun p=>l.length-p) (0) ⟨aij _,rfl,S.sn⟩ ?_;rintro k ac u hI;try dsimp only at hI
 obtain⟨hk,hR,S⟩:=hI;refine ahK fun _ dR=>adr S 1 [] [(14,.bool ((k:Int)<(l.length:Int)))] fun S=>ahJ<|dR _ _<|ah2 (fun _ iD=>?_);refine ahN S (fun dG=>?_) (fun dG=>?_)
 ·refine ah4<|iD _ _<|ah2 fun _ dO=>ah5<|ahK fun _ fD=>adr S 2 [] [(5,.i k)] fun S=>ahJ<|fD _ _<|ah2 (fun _ iI=>?_);have qQ:k<l.length:=by have:=ain dG; omega
  obtain⟨b15,o16,rfl,x21,AX,KX,KY⟩:=aiy h (fun _=>rfl) (k) qQ;have S:=S.view0 KX KY;have qR:k<m.length:=by have:=jS hc4; have:=ain dG; omega
  obtain⟨b23,o24,rfl,y29,hx27,KZ,La⟩:=aiy h' (fun _=>rfl) (k) qR;have S:=S.view0 KZ La;refine ahW S 9 [.idx k l.length,.mem 1 0,.idx k m.length,.mem 0 0,.cmp .neq 138 (.tmp 19) (.tmp 23) (.agg #[.i x21.verb,.i x21.a.x,.i x21.a.y,.i x21.b.x,.i x21.b.y,.i x21.c.x,.i x21.c.y]) (.agg #[.i y29.verb,.i y29.a.x,.i y29.a.y,.i y29.b.x,.i y29.b.y,.i y29.c.x,.i y29.c.y]) (.bool (!((x21.verb==y29.verb)&&((x21.a.x==y29.a.x)&&((x21.a.y==y29.a.y)&&((x21.b.x==y29.b.x)&&((x21.b.y==y29.b.y)&&((x21.c.x==y29.c.x)&&(x21.c.y==y29.c.y)))))))))] [] [(24,.bool (!((x21.verb==y29.verb)&&((x21.a.x==y29.a.x)&&((x21.a.y==y29.a.y)&&((x21.b.x==y29.b.x)&&((x21.b.y==y29.b.y)&&((x21.c.x==y29.c.x)&&(x21.c.y==y29.c.y)))))))))] trivial (hk:=⟨qQ,qR,Sx.fQ (fun _=>aac ..) (by kernel_rfl),trivial⟩) fun ac u yO S=>ahJ (iI _ _ ?_);refine ahN S (fun hc31=>?_) (fun hc31=>?_)
  ·refine ahK fun _ mG=>adr S 1 [] [(4,.z)] fun S=>ahJ<|mG _ _<|ahM S results133 ?_;exact⟨aH (oQ qQ qR (fun e=>by have hq:=hc31; rw[AX,hx27]at e; subst e; simp at hq)),S.E⟩
  refine ah4<|dO _ _<|aia<|adr S 2 [.re 25 (.i (IntKind.i64.wrap ((k:Int)+1))) (.i (k+1:Nat))] [(13,.i (k+1:Nat))] (hk:=⟨ahY (by omega),trivial⟩) fun S=>ahJ ?_;show ∃i',_∧_;exact⟨(k+1),⟨by omega,(kK qQ qR hR (by rw[AX,hx27]; exact TR hc31)),S.sn⟩,by show _-_<_-_; omega⟩
 refine ail<|iT _ _<|ahK fun _ kD=>adr S 1 [] [(4,.bool true)] fun S=>ahJ<|kD _ _<|ahM S results133 ?_;exact⟨aH (oU (by have:=aiu dG; omega) (jS hc4) hR),S.E⟩
theorem Lc{w:World}{v u:Value}{l m:List eY}(h:aN 5 eY.cells w v l)(h':aN 5 eY.cells w u m) :
  Calls prog 134 #[v,u] w fun e w'=>e = .returned (.bool (l=m))∧Ext w w':=by
 obtain⟨a,cap,rfl⟩:=h.shape;obtain⟨d,cap',rfl⟩:=h'.shape;have hmax:l.length≤9223372036854775807:=h.len;refine ahO func134 ntmps134 fun ac S=>ahK fun _ aY=>adr S 1 [] [(4,.z)] fun S=>ahJ<|aY _ _<|ah2 fun _ fA=>ahK fun _ jw=>adr S 5 [] [(10,.bool (((l.length:Int)) != (m.length:Int)))] fun S=>ahJ (jw _ _ ?_);refine ahN S (fun hc4=>?_) (fun hc4=>?_)
 ·refine ahK fun _ dw=>adr S 1 [] [(4,.z)] fun S=>ahJ<|dw _ _<|ahM S results134 ?_;exact⟨aH (kJ hc4),S.E⟩
 refine ah4<|fA _ _<|ah2 fun _ iT=>ahK fun _ iL=>adr S 3 [] [(12,.i l.length),(13,.i 0)] fun S=>ahJ<|iL _ _<|ah5 ?_;refine aiM (ι:=Nat) (fun p a' w'=>p≤l.length∧(l.take p=m.take p)∧Sx.St w a' w' 26 [(0,.slice a l.length cap),(1,.slice d m.length cap'),(4,.z),(12,.i l.length),(13,.i p)] [] []) (fun p=>l.length-p) (0) ⟨aij _,rfl,S.sn⟩ ?_;rintro k ac u hI;try dsimp only at hI
 obtain⟨hk,hR,S⟩:=hI;refine ahK fun _ dR=>adr S 1 [] [(14,.bool ((k:Int)<(l.length:Int)))] fun S=>ahJ<|dR _ _<|ah2 (fun _ iD=>?_);refine ahN S (fun dG=>?_) (fun dG=>?_)
 ·refine ah4<|iD _ _<|ah2 fun _ dO=>ah5<|ahK fun _ fD=>adr S 2 [] [(5,.i k)] fun S=>ahJ<|fD _ _<|ah2 (fun _ iI=>?_);have qQ:k<l.length:=by have:=ain dG; omega
  obtain⟨b15,o16,rfl,x21,AX,KX,KY⟩:=aiy h (fun _=>rfl) (k) qQ;have S:=S.view0 KX KY;have qR:k<m.length:=by have:=jS hc4; have:=ain dG; omega
  obtain⟨b23,o24,rfl,y29,hx27,KZ,La⟩:=aiy h' (fun _=>rfl) (k) qR;have S:=S.view0 KZ La;refine ahW S 9 [.idx k l.length,.mem 1 0,.idx k m.length,.mem 0 0,.cmp .neq 189 (.tmp 19) (.tmp 23) (.agg #[.i x21.o,.u (x21.c.r.toNat:Int),.u (x21.c.g.toNat:Int),.u (x21.c.b.toNat:Int),.u (x21.c.a.toNat:Int)]) (.agg #[.i y29.o,.u (y29.c.r.toNat:Int),.u (y29.c.g.toNat:Int),.u (y29.c.b.toNat:Int),.u (y29.c.a.toNat:Int)]) (.bool (!((x21.o==y29.o)&&(((x21.c.r.toNat:Int)==(y29.c.r.toNat:Int))&&(((x21.c.g.toNat:Int)==(y29.c.g.toNat:Int))&&(((x21.c.b.toNat:Int)==(y29.c.b.toNat:Int))&&((x21.c.a.toNat:Int)==(y29.c.a.toNat:Int))))))))] [] [(24,.bool (!((x21.o==y29.o)&&(((x21.c.r.toNat:Int)==(y29.c.r.toNat:Int))&&(((x21.c.g.toNat:Int)==(y29.c.g.toNat:Int))&&(((x21.c.b.toNat:Int)==(y29.c.b.toNat:Int))&&((x21.c.a.toNat:Int)==(y29.c.a.toNat:Int))))))))] trivial (hk:=⟨qQ,qR,Sx.fQ (fun _=>TS ..) (by kernel_rfl),trivial⟩) fun ac u yO S=>ahJ (iI _ _ ?_);refine ahN S (fun hc31=>?_) (fun hc31=>?_)
  ·refine ahK fun _ mG=>adr S 1 [] [(4,.z)] fun S=>ahJ<|mG _ _<|ahM S results134 ?_;exact⟨aH (oQ qQ qR (fun e=>by have hq:=hc31; rw[AX,hx27]at e; subst e; simp at hq)),S.E⟩
  refine ah4<|dO _ _<|aia<|adr S 2 [.re 25 (.i (IntKind.i64.wrap ((k:Int)+1))) (.i (k+1:Nat))] [(13,.i (k+1:Nat))] (hk:=⟨ahY (by omega),trivial⟩) fun S=>ahJ ?_;show ∃i',_∧_;exact⟨(k+1),⟨by omega,(kK qQ qR hR (by rw[AX,hx27]; exact NR hc31)),S.sn⟩,by show _-_<_-_; omega⟩
 refine ail<|iT _ _<|ahK fun _ kD=>adr S 1 [] [(4,.bool true)] fun S=>ahJ<|kD _ _<|ahM S results134 ?_;exact⟨aH (oU (by have:=aiu dG; omega) (jS hc4) hR),S.E⟩
theorem Qh{w:World}{v u:Value}{l m:List dA}(h:aN 4 dA.cells w v l)(h':aN 4 dA.cells w u m) :
  Calls prog 136 #[v,u] w fun e w'=>e = .returned (.bool (l=m))∧Ext w w':=by
 obtain⟨a,cap,rfl⟩:=h.shape;obtain⟨d,cap',rfl⟩:=h'.shape;have hmax:l.length≤9223372036854775807:=h.len;refine ahO func136 ntmps136 fun ac S=>ahK fun _ aY=>adr S 1 [] [(4,.z)] fun S=>ahJ<|aY _ _<|ah2 fun _ fA=>ahK fun _ jw=>adr S 5 [] [(10,.bool (((l.length:Int)) != (m.length:Int)))] fun S=>ahJ (jw _ _ ?_);refine ahN S (fun hc4=>?_) (fun hc4=>?_)
 ·refine ahK fun _ dw=>adr S 1 [] [(4,.z)] fun S=>ahJ<|dw _ _<|ahM S results136 ?_;exact⟨aH (kJ hc4),S.E⟩
 refine ah4<|fA _ _<|ah2 fun _ iT=>ahK fun _ iL=>adr S 3 [] [(12,.i l.length),(13,.i 0)] fun S=>ahJ<|iL _ _<|ah5 ?_;refine aiM (ι:=Nat) (fun p a' w'=>p≤l.length∧(l.take p=m.take p)∧Sx.St w a' w' 26 [(0,.slice a l.length cap),(1,.slice d m.length cap'),(4,.z),(12,.i l.length),(13,.i p)] [] []) (fun p=>l.length-p) (0) ⟨aij _,rfl,S.sn⟩ ?_;rintro k ac u hI;try dsimp only at hI
 obtain⟨hk,hR,S⟩:=hI;refine ahK fun _ dR=>adr S 1 [] [(14,.bool ((k:Int)<(l.length:Int)))] fun S=>ahJ<|dR _ _<|ah2 (fun _ iD=>?_);refine ahN S (fun dG=>?_) (fun dG=>?_)
 ·refine ah4<|iD _ _<|ah2 fun _ dO=>ah5<|ahK fun _ fD=>adr S 2 [] [(5,.i k)] fun S=>ahJ<|fD _ _<|ah2 (fun _ iI=>?_);have qQ:k<l.length:=by have:=ain dG; omega
  obtain⟨b15,o16,rfl,x21,AX,KX,KY⟩:=aiy h (fun _=>rfl) (k) qQ;have S:=S.view0 KX KY;have qR:k<m.length:=by have:=jS hc4; have:=ain dG; omega
  obtain⟨b23,o24,rfl,y29,hx27,KZ,La⟩:=aiy h' (fun _=>rfl) (k) qR;have S:=S.view0 KZ La;refine ahW S 9 [.idx k l.length,.mem 1 0,.idx k m.length,.mem 0 0,.cmp .neq 192 (.tmp 19) (.tmp 23) (.agg #[.u (x21.r.toNat:Int),.u (x21.g.toNat:Int),.u (x21.b.toNat:Int),.u (x21.a.toNat:Int)]) (.agg #[.u (y29.r.toNat:Int),.u (y29.g.toNat:Int),.u (y29.b.toNat:Int),.u (y29.a.toNat:Int)]) (.bool (!(((x21.r.toNat:Int)==(y29.r.toNat:Int))&&(((x21.g.toNat:Int)==(y29.g.toNat:Int))&&(((x21.b.toNat:Int)==(y29.b.toNat:Int))&&((x21.a.toNat:Int)==(y29.a.toNat:Int)))))))] [] [(24,.bool (!(((x21.r.toNat:Int)==(y29.r.toNat:Int))&&(((x21.g.toNat:Int)==(y29.g.toNat:Int))&&(((x21.b.toNat:Int)==(y29.b.toNat:Int))&&((x21.a.toNat:Int)==(y29.a.toNat:Int)))))))] trivial (hk:=⟨qQ,qR,Sx.fQ (fun _=>aad ..) (by kernel_rfl),trivial⟩) fun ac u yO S=>ahJ (iI _ _ ?_);refine ahN S (fun hc31=>?_) (fun hc31=>?_)
  ·refine ahK fun _ mG=>adr S 1 [] [(4,.z)] fun S=>ahJ<|mG _ _<|ahM S results136 ?_;exact⟨aH (oQ qQ qR (fun e=>by have hq:=hc31; rw[AX,hx27]at e; subst e; simp at hq)),S.E⟩
  refine ah4<|dO _ _<|aia<|adr S 2 [.re 25 (.i (IntKind.i64.wrap ((k:Int)+1))) (.i (k+1:Nat))] [(13,.i (k+1:Nat))] (hk:=⟨ahY (by omega),trivial⟩) fun S=>ahJ ?_;show ∃i',_∧_;exact⟨(k+1),⟨by omega,(kK qQ qR hR (by rw[AX,hx27]; exact KJ hc31)),S.sn⟩,by show _-_<_-_; omega⟩
 refine ail<|iT _ _<|ahK fun _ kD=>adr S 1 [] [(4,.bool true)] fun S=>ahJ<|kD _ _<|ahM S results136 ?_;exact⟨aH (oU (by have:=aiu dG; omega) (jS hc4) hR),S.E⟩
theorem Qi{w:World}{v u:Value}{l m:List Int}(h:aN 1 (fun x=>[Ib x]) w v l)(h':aN 1 (fun x=>[Ib x]) w u m) :
  Calls prog 135 #[v,u] w fun e w'=>e = .returned (.bool (l=m))∧Ext w w':=by
 obtain⟨a,cap,rfl⟩:=h.shape;obtain⟨d,cap',rfl⟩:=h'.shape;have hmax:l.length≤9223372036854775807:=h.len;refine ahO func135 ntmps135 fun ac S=>ahK fun _ aY=>adr S 1 [] [(4,.z)] fun S=>ahJ<|aY _ _<|ah2 fun _ fA=>ahK fun _ jw=>adr S 5 [] [(10,.bool (((l.length:Int)) != (m.length:Int)))] fun S=>ahJ (jw _ _ ?_);refine ahN S (fun hc4=>?_) (fun hc4=>?_)
 ·refine ahK fun _ dw=>adr S 1 [] [(4,.z)] fun S=>ahJ<|dw _ _<|ahM S results135 ?_;exact⟨aH (kJ hc4),S.E⟩
 refine ah4<|fA _ _<|ah2 fun _ iT=>ahK fun _ iL=>adr S 3 [] [(12,.i l.length),(13,.i 0)] fun S=>ahJ<|iL _ _<|ah5 ?_;refine aiM (ι:=Nat) (fun p a' w'=>p≤l.length∧(l.take p=m.take p)∧Sx.St w a' w' 26 [(0,.slice a l.length cap),(1,.slice d m.length cap'),(4,.z),(12,.i l.length),(13,.i p)] [] []) (fun p=>l.length-p) (0) ⟨aij _,rfl,S.sn⟩ ?_;rintro k ac u hI;try dsimp only at hI
 obtain⟨hk,hR,S⟩:=hI;refine ahK fun _ dR=>adr S 1 [] [(14,.bool ((k:Int)<(l.length:Int)))] fun S=>ahJ<|dR _ _<|ah2 (fun _ iD=>?_);refine ahN S (fun dG=>?_) (fun dG=>?_)
 ·refine ah4<|iD _ _<|ah2 fun _ dO=>ah5<|ahK fun _ fD=>adr S 2 [] [(5,.i k)] fun S=>ahJ<|fD _ _<|ah2 (fun _ iI=>?_);have qQ:k<l.length:=by have:=ain dG; omega
  obtain⟨b15,o16,rfl,x21,AX,KX,KY⟩:=aiy h (fun _=>rfl) (k) qQ;have S:=S.view0 KX KY;have qR:k<m.length:=by have:=jS hc4; have:=ain dG; omega
  obtain⟨b23,o24,rfl,y29,hx27,KZ,La⟩:=aiy h' (fun _=>rfl) (k) qR;have S:=S.view0 KZ La;refine ahW S 9 [.idx k l.length,.mem 1 0,.idx k m.length,.mem 0 0] [] [(24,.bool ((x21) != y29))] trivial (hk:=⟨qQ,qR,trivial⟩) fun ac u yO S=>ahJ (iI _ _ ?_);refine ahN S (fun hc31=>?_) (fun hc31=>?_)
  ·refine ahK fun _ mG=>adr S 1 [] [(4,.z)] fun S=>ahJ<|mG _ _<|ahM S results135 ?_;exact⟨aH (oQ qQ qR (fun e=>by have hq:=hc31; rw[AX,hx27]at e; subst e; simp at hq)),S.E⟩
  refine ah4<|dO _ _<|aia<|adr S 2 [.re 25 (.i (IntKind.i64.wrap ((k:Int)+1))) (.i (k+1:Nat))] [(13,.i (k+1:Nat))] (hk:=⟨ahY (by omega),trivial⟩) fun S=>ahJ ?_;show ∃i',_∧_;exact⟨(k+1),⟨by omega,(kK qQ qR hR (by rw[AX,hx27]; exact Ub hc31)),S.sn⟩,by show _-_<_-_; omega⟩
 refine ail<|iT _ _<|ahK fun _ kD=>adr S 1 [] [(4,.bool true)] fun S=>ahJ<|kD _ _<|ahM S results135 ?_;exact⟨aH (oU (by have:=aiu dG; omega) (jS hc4) hR),S.E⟩
open Go.RowKit
variable{α:Type}
theorem Qj(p:dA):(((min (p.r.toNat:Int) (p.a.toNat:Int))==(p.r.toNat:Int))&&(((min (p.g.toNat:Int) (p.a.toNat:Int))==(p.g.toNat:Int))&&(((min (p.b.toNat:Int) (p.a.toNat:Int))==(p.b.toNat:Int))&&((min (p.a.toNat:Int) (p.a.toNat:Int))==(p.a.toNat:Int)))))=p.valid:=by
 have h:∀x y:UInt8,((min (x.toNat:Int) (y.toNat:Int))==(x.toNat:Int))=decide (x≤y):=by
  intro x y; rw[ai4]; simp only[aiv,aiz,UInt8.le_iff_toNat_le]; omega
 rw[h,h,h,h]; unfold dA.valid; simp
theorem oW{l:List α}{k:Nat}{p:α→Bool}(hk:l.length≤k)(h:(l.take k).all p=true):l.all p=true:=by rwa [aiC hk]at h
theorem wU{l:List α}{k:Nat}{p:α→Bool}(hk:k<l.length)(h:p l[k]=false):l.all p=false:=by
 rw[List.all_eq_false]; exact⟨l[k],aiD hk,by simp[h]⟩
theorem lM{l:List α}{k:Nat}{p:α→Bool}(hk:k<l.length)(hR:(l.take k).all p=true)(h:p l[k]=true):(l.take (k+1)).all p=true:=by
 rw[ajc hk,List.all_append,hR]; simp[h]
theorem Qk{a b:Int}(ha:side a=true)(hb:side b=true):IntKind.i64.wrap (a*b)=a*b:=by
 simp only[side,aiq,aiz]at ha hb;have h1:a*b≤4096*4096:=Int.le_trans (Int.mul_le_mul_of_nonneg_right ha.2 (by omega)) (Int.mul_le_mul_of_nonneg_left hb.2 (by omega));have h0:0≤a*b:=Int.mul_nonneg (by omega) (by omega);rw[IntKind.wrap_i64]; omega
theorem Iy{m:cZ}:((((!(side m.w))||(!(side m.h)))||(decide (65536<IntKind.i64.wrap (m.w*m.h))))||((m.l.length:Int) != IntKind.i64.wrap (m.w*m.h)))=((((!(side m.w))||(!(side m.h)))||(decide (65536<(m.w*m.h))))||((m.l.length:Int) != (m.w*m.h))):=by
 cases ha:side m.w<;>cases hb:side m.h<;>simp only[Bool.not_false,Bool.not_true,Bool.true_or,Bool.false_or,Bool.or_true];rw[Qk ha hb]
theorem abk{m:cZ}(h:((((!(side m.w))||(!(side m.h)))||(decide (65536<(m.w*m.h))))||((m.l.length:Int) != (m.w*m.h)))=true):false=m.valid:=by
 unfold cZ.valid cZ.size;revert h;cases side m.w<;>cases side m.h<;>simp;intro h h1 h2; omega
theorem Yr{m:cZ}(h:((((!(side m.w))||(!(side m.h)))||(decide (65536<(m.w*m.h))))||((m.l.length:Int) != (m.w*m.h)))=false):(!(!(m.l.all dA.valid)))=m.valid:=by
 unfold cZ.valid cZ.size;revert h;cases side m.w<;>cases side m.h<;>simp;intro h h1; rw[h1]; simp[h]
theorem abl{m n:cZ}:((m.w==n.w)&&(m.h==n.h)&&decide (m.l=n.l))=m.eq n:=by
 unfold cZ.eq;rw[Bool.and_assoc];by_cases h:m.l=n.l<;>simp[h]
theorem Ql{l:List eY}(h:((decide ((l.length:Int)<1))||(decide (16<(l.length:Int))))=true):false=gK l:=by
 unfold gK;simp only[ajX,aiz]at h;rcases h with h | h
 ·rw[ajx (by omega)]; rfl
 rw[ajx (p:=l.length≤16) (by omega)]; simp
theorem Iz{l:List eY}(h:((decide ((l.length:Int)<1))||(decide (16<(l.length:Int))))=false):gK l=fC 0 l:=by
 unfold gK;simp only[aiX,aji]at h;rw[ajd (p:=1≤l.length) (by omega),ajd (p:=l.length≤16) (by omega)]; rfl
theorem Qm{l:List eY}{k:Nat}{last:Int}(h:((decide ((l.length:Int)<1))||(decide (16<(l.length:Int))))=false)(hk:l.length≤k)(hR:fC 0 l=fC last (l.drop k)):true=gK l:=by
 rw[Iz h,hR,ajB hk]; rfl
theorem Qn{l:List eY}{k:Nat}{last:Int}(h:((decide ((l.length:Int)<1))||(decide (16<(l.length:Int))))=false)(hk:k<l.length)(hR:fC 0 l=fC last (l.drop k))(hb:((decide (l[k].o<last))||(decide (65536<l[k].o)))=true):false=gK l:=by
 rw[Iz h,hR,ajg hk,fC];simp only[ajX,aiz]at hb;rcases hb with hb | hb
 ·rw[ajx (by omega)]; rfl
 rw[ajx (p:=l[k].o≤65536) (by omega)]; simp
theorem Ld{l:List eY}{k:Nat}{last:Int}(hk:k<l.length)(hR:fC 0 l=fC last (l.drop k))(hb:((decide (l[k].o<last))||(decide (65536<l[k].o)))=false):fC 0 l=fC l[k].o (l.drop (k+1)):=by
 rw[hR,ajg hk,fC];simp only[aiX,aji]at hb;rw[ajd (p:=last≤l[k].o) (by omega),ajd (p:=l[k].o≤65536) (by omega)]; rfl
theorem qU{w:World}{b:Nat}(p:dA)(x:Int)(hx:Bx w b #[.u (p.r.toNat:Int),.u (p.g.toNat:Int),.u (p.b.toNat:Int),.u (p.a.toNat:Int)]) :
  Calls prog 325 #[.u x,.q b 0] w fun e w'=>e = .returned (.u (min x (p.a.toNat:Int)))∧w=w':=by
 skip;refine ahO func325 ntmps325 (fun ac S=>?_);have S:=S.view0 hx.1 (hx.range 0 4 rfl);refine ahK fun _ aY=>adr S 1 [] [(3,.u 0)] fun S=>ahJ<|aY _ _<|ahK fun _ fA=>adr S 5 [.mem 0 3,.re 7 (.u (if (p.a.toNat:Int)<x then (p.a.toNat:Int)else x)) (.u (min x (p.a.toNat:Int)))] [(3,.u (min x (p.a.toNat:Int)))] (hk:=⟨Sx.abm,trivial⟩) fun S=>ahJ<|fA _ _<|ahM S results325 ?_;exact⟨rfl,rfl⟩
theorem Uy{w:World}{b:Nat}(p:dA)(hx:Bx w b #[.u (p.r.toNat:Int),.u (p.g.toNat:Int),.u (p.b.toNat:Int),.u (p.a.toNat:Int)]) :
  Calls prog 324 #[.agg #[.u (p.r.toNat:Int),.u (p.g.toNat:Int),.u (p.b.toNat:Int),.u (p.a.toNat:Int)],.func (.func 325) #[] #[.q b 0]] w fun e w'=>e = .returned (.agg #[.u (min (p.r.toNat:Int) (p.a.toNat:Int)),.u (min (p.g.toNat:Int) (p.a.toNat:Int)),.u (min (p.b.toNat:Int) (p.a.toNat:Int)),.u (min (p.a.toNat:Int) (p.a.toNat:Int))])∧Ext w w':=by
 skip;refine ahO func324 ntmps324 (fun ac S=>?_);have S:=S.view0 hx.1 (hx.range 0 4 rfl);refine ahK fun _ aY=>ahL S 2 p.cells fun ac u b2 E3 hb4 S=>ahL S 4 [.u 0,.u 0,.u 0,.u 0] fun ac u b5 E6 hb7 S=>ahJ<|aY _ _<|ah2 fun _ dR=>ahW S 17 [.mem 1 0,.mem 1 1,.mem 1 2,.mem 1 3] [(_,_,true,.u (min (p.r.toNat:Int) (p.a.toNat:Int))),(_,_,true,.u (min (p.g.toNat:Int) (p.a.toNat:Int))),(_,_,true,.u (min (p.b.toNat:Int) (p.a.toNat:Int))),(_,_,true,.u (min (p.a.toNat:Int) (p.a.toNat:Int)))] [(21,.agg #[.u (min (p.r.toNat:Int) (p.a.toNat:Int)),.u (min (p.g.toNat:Int) (p.a.toNat:Int)),.u (min (p.b.toNat:Int) (p.a.toNat:Int)),.u (min (p.a.toNat:Int) (p.a.toNat:Int))])] ⟨fun u hC g=>ah0 (qU p (p.r.toNat:Int) (hx.ext (Ext.trans' S.E hC))),fun u hC g=>ah0 (qU p (p.g.toNat:Int) (hx.ext (Ext.trans' S.E hC))),fun u hC g=>ah0 (qU p (p.b.toNat:Int) (hx.ext (Ext.trans' S.E hC))),fun u hC g=>ah0 (qU p (p.a.toNat:Int) (hx.ext (Ext.trans' S.E hC))),trivial⟩ fun ac u E9 S=>ahP S 0 (off:=0) (cs:=[.u (min (p.r.toNat:Int) (p.a.toNat:Int)),.u (min (p.g.toNat:Int) (p.a.toNat:Int)),.u (min (p.b.toNat:Int) (p.a.toNat:Int)),.u (min (p.a.toNat:Int) (p.a.toNat:Int))]) rfl fun u C10 S=>ahJ<|dR _ _<|Sx.EZ S 0 results324 rfl (v := .agg #[.u (min (p.r.toNat:Int) (p.a.toNat:Int)),.u (min (p.g.toNat:Int) (p.a.toNat:Int)),.u (min (p.b.toNat:Int) (p.a.toNat:Int)),.u (min (p.a.toNat:Int) (p.a.toNat:Int))]) ?_;exact⟨rfl,S.E⟩
theorem Le(p:dA)(w:World) :
  Calls prog 292 #[.agg #[.u (p.r.toNat:Int),.u (p.g.toNat:Int),.u (p.b.toNat:Int),.u (p.a.toNat:Int)]] w fun e w'=>e = .returned (.agg #[.u (min (p.r.toNat:Int) (p.a.toNat:Int)),.u (min (p.g.toNat:Int) (p.a.toNat:Int)),.u (min (p.b.toNat:Int) (p.a.toNat:Int)),.u (min (p.a.toNat:Int) (p.a.toNat:Int))])∧Ext w w':=by
 skip;refine ahO func292 ntmps292 fun ac S=>ahK fun _ aY=>ahL S 1 p.cells fun ac u b2 E3 hb4 S=>ahL S 2 [.u 0,.u 0,.u 0,.u 0] fun ac u b5 E6 hb7 S=>ahJ<|aY _ _<|ahK fun _ dR=>adr S 2 [.mem 1 0] [(3,.agg p.cells.toArray),(4,.func (.func 325) #[] #[.q b2 0])] fun S=>ahS S 5 (Uy p (S.bx 1)) fun ac u E9 S=>ahP S 0 (off:=0) (cs:=[.u (min (p.r.toNat:Int) (p.a.toNat:Int)),.u (min (p.g.toNat:Int) (p.a.toNat:Int)),.u (min (p.b.toNat:Int) (p.a.toNat:Int)),.u (min (p.a.toNat:Int) (p.a.toNat:Int))]) rfl fun u C10 S=>ahJ<|dR _ _<|Sx.EZ S 0 results292 rfl (v := .agg #[.u (min (p.r.toNat:Int) (p.a.toNat:Int)),.u (min (p.g.toNat:Int) (p.a.toNat:Int)),.u (min (p.b.toNat:Int) (p.a.toNat:Int)),.u (min (p.a.toNat:Int) (p.a.toNat:Int))]) ?_;exact⟨rfl,S.E⟩
theorem FP(p:dA)(w:World) :
  Calls prog 249 #[.agg #[.u (p.r.toNat:Int),.u (p.g.toNat:Int),.u (p.b.toNat:Int),.u (p.a.toNat:Int)]] w fun e w'=>e = .returned (.bool p.valid)∧Ext w w':=by
 skip;refine ahO func249 ntmps249 fun ac S=>ahK fun _ aY=>ahL S 1 p.cells fun ac u b2 E3 hb4 S=>adr S 1 [] [(2,.z)] fun S=>ahJ<|aY _ _<|ah2 fun _ dw=>ahW S 4 [.mem 0 0,.mem 0 0,.cmp .eql 192 (.tmp 4) (.tmp 5) (.agg #[.u (min (p.r.toNat:Int) (p.a.toNat:Int)),.u (min (p.g.toNat:Int) (p.a.toNat:Int)),.u (min (p.b.toNat:Int) (p.a.toNat:Int)),.u (min (p.a.toNat:Int) (p.a.toNat:Int))]) (.agg #[.u (p.r.toNat:Int),.u (p.g.toNat:Int),.u (p.b.toNat:Int),.u (p.a.toNat:Int)]) (.bool (((min (p.r.toNat:Int) (p.a.toNat:Int))==(p.r.toNat:Int))&&(((min (p.g.toNat:Int) (p.a.toNat:Int))==(p.g.toNat:Int))&&(((min (p.b.toNat:Int) (p.a.toNat:Int))==(p.b.toNat:Int))&&((min (p.a.toNat:Int) (p.a.toNat:Int))==(p.a.toNat:Int))))))] [(_,_,true,.agg #[.u (min (p.r.toNat:Int) (p.a.toNat:Int)),.u (min (p.g.toNat:Int) (p.a.toNat:Int)),.u (min (p.b.toNat:Int) (p.a.toNat:Int)),.u (min (p.a.toNat:Int) (p.a.toNat:Int))])] [(6,.bool (((min (p.r.toNat:Int) (p.a.toNat:Int))==(p.r.toNat:Int))&&(((min (p.g.toNat:Int) (p.a.toNat:Int))==(p.g.toNat:Int))&&(((min (p.b.toNat:Int) (p.a.toNat:Int))==(p.b.toNat:Int))&&((min (p.a.toNat:Int) (p.a.toNat:Int))==(p.a.toNat:Int))))))] ⟨fun u hC g=>Le p _,trivial⟩ (hk:=⟨Sx.fQ (fun _=>aag ..) (by kernel_rfl),trivial⟩) fun ac u E6 S=>adr S 1 [] [(2,.bool (((min (p.r.toNat:Int) (p.a.toNat:Int))==(p.r.toNat:Int))&&(((min (p.g.toNat:Int) (p.a.toNat:Int))==(p.g.toNat:Int))&&(((min (p.b.toNat:Int) (p.a.toNat:Int))==(p.b.toNat:Int))&&((min (p.a.toNat:Int) (p.a.toNat:Int))==(p.a.toNat:Int))))))] fun S=>ahJ<|dw _ _<|ahM S results249 ?_;exact⟨aH (Qj p),S.E⟩
theorem Lh(p:dA)(w:World) :
  Calls prog 248 #[.agg #[.u (p.r.toNat:Int),.u (p.g.toNat:Int),.u (p.b.toNat:Int),.u (p.a.toNat:Int)]] w fun e w'=>e = .returned (.bool (!p.valid))∧Ext w w':=by
 skip;refine ahO func248 ntmps248 fun ac S=>ahK fun _ aY=>ahL S 1 p.cells fun ac u b2 E3 hb4 S=>adr S 1 [] [(2,.z)] fun S=>ahJ<|aY _ _<|ahK fun _ dw=>adr S 1 [.mem 0 0] [(3,.agg p.cells.toArray)] fun S=>ahS S 4 (FP p _) fun ac u E6 S=>adr S 2 [] [(2,.bool (!p.valid))] fun S=>ahJ<|dw _ _<|ahM S results248 ?_;exact⟨rfl,S.E⟩
theorem FQ{w:World}{v:Value}{l:List dA}(h:aN 4 dA.cells w v l) :
  Calls prog 291 #[v,.func (.func 248) #[] #[]] w fun e w'=>∃z,e = .returned (.i z)∧decide (0≤z) = !(l.all dA.valid)∧Ext w w':=by
 obtain⟨a,cap,rfl⟩:=h.shape;have hmax:l.length≤9223372036854775807:=h.len;refine ahO func291 ntmps291 fun ac S=>ahK fun _ aY=>adr S 1 [] [(4,.i 0)] fun S=>ahJ<|aY _ _<|ah2 fun _ fA=>ahK fun _ jw=>adr S 3 [] [(7,.i l.length),(8,.i 0)] fun S=>ahJ<|jw _ _<|ah5 ?_;refine aiM (ι:=Nat) (fun p a' w'=>p≤l.length∧((l.take p).all dA.valid=true)∧Sx.St w a' w' 19 [(0,.slice a l.length cap),(1,.func (.func 248) #[] #[]),(4,.i 0),(7,.i l.length),(8,.i p)] [] []) (fun p=>l.length-p) (0) ⟨aij _,rfl,S.sn⟩ ?_;rintro k ac u hI;try dsimp only at hI
 obtain⟨hk,hR,S⟩:=hI;refine ahK fun _ nT=>adr S 1 [] [(9,.bool ((k:Int)<(l.length:Int)))] fun S=>ahJ<|nT _ _<|ah2 (fun _ dw=>?_);refine ahN S (fun hc6=>?_) (fun hc6=>?_)
 ·refine ah4<|dw _ _<|ah2 fun _ iL=>ah5<|ahK fun _ dR=>adr S 2 [] [(5,.i k)] fun S=>ahJ<|dR _ _<|ahK (fun _ iD=>?_);have qm:k<l.length:=by have:=ain hc6; omega
  obtain⟨b10,o11,rfl,x16,vS,Lj,FT⟩:=aiy h (fun _=>rfl) (k) qm;have S:=S.view0 Lj FT;refine adr S 5 [.idx k l.length,.mem 0 0] [(11,.func (.func 248) #[] #[]),(15,.agg x16.cells.toArray)] (hk:=⟨qm,trivial⟩) fun S=>ahS S 16 (Lh x16 _) fun ac u tZ S=>ahJ (iD _ _ ?_);refine ahN S (fun hc19=>?_) (fun hc19=>?_)
  ·refine ahK fun _ kP=>adr S 2 [] [(4,.i k)] fun S=>ahJ<|kP _ _<|ahM S results291 ?_;exact⟨_,rfl,by rw[wU qm (by rw[vS]; simpa using hc19)]; simp,S.E⟩
  refine ah4<|iL _ _<|aia<|adr S 2 [.re 18 (.i (IntKind.i64.wrap ((k:Int)+1))) (.i (k+1:Nat))] [(8,.i (k+1:Nat))] (hk:=⟨ahY (by omega),trivial⟩) fun S=>ahJ ?_;show ∃i',_∧_;exact⟨(k+1),⟨by omega,(lM qm hR (by rw[vS]; simpa using hc19)),S.sn⟩,by show _-_<_-_; omega⟩
 refine ail<|fA _ _<|ahK fun _ mX=>adr S 1 [] [(4,.i (-1))] fun S=>ahJ<|mX _ _<|ahM S results291 ?_;exact⟨_,rfl,by rw[oW (by have:=aiu hc6; omega) hR]; rfl,S.E⟩
theorem IB{w:World}{v:Value}{l:List dA}(h:aN 4 dA.cells w v l) :
  Calls prog 247 #[v,.func (.func 248) #[] #[]] w fun e w'=>e = .returned (.bool (!(l.all dA.valid)))∧Ext w w':=by
 skip;refine ahO func247 ntmps247 fun ac S=>ahK fun _ aY=>adr S 1 [] [(4,.z)] fun S=>ahJ<|aY _ _<|ahK fun _ fA=>adr S 2 [] [(5,v),(6,.func (.func 248) #[] #[])] fun S=>ahQ S (some 7) (FQ (h.below S.E)) ?_;rintro e u ⟨z,rfl,hz,E3⟩;refine⟨_,rfl,E3,fun ac S=>?_⟩;refine adr S 2 [] [(4,.bool (0≤z))] fun S=>ahJ<|fA _ _<|ahM S results247 ?_;exact⟨aH hz,S.E⟩
theorem IC(n:Int)(w:World) :
  Calls prog 246 #[.i n] w fun e w'=>e = .returned (.bool (side n))∧w=w':=by
 skip;refine ahO func246 ntmps246 fun ac S=>ahK fun _ aY=>adr S 1 [] [(2,.z)] fun S=>ahJ<|aY _ _<|ahK fun _ fA=>adr S 7 [] [(2,.bool ((decide (1≤n))&&(decide (n≤4096))))] fun S=>ahJ<|fA _ _<|ahM S results246 ?_;exact⟨rfl,rfl⟩
theorem wV{w:World}{m:cZ}(h:m.ok w) :
  Calls prog 193 #[m.v] w fun e w'=>e = .returned (.bool m.valid)∧Ext w w':=by
 obtain⟨a,cap,hs⟩:=h.2.2.shape;unfold cZ.v;have hq:=h.2.2;rw[hs];rw[hs]at hq;refine ahO func193 ntmps193 fun ac S=>ahK fun _ aY=>ahL S 1 [.i m.w,.i m.h,.slice a m.l.length cap] fun ac u b2 E3 hb4 S=>adr S 1 [] [(2,.z)] fun S=>ahJ<|aY _ _<|ahK fun _ dw=>adr S 1 [] [(3,.func (.func 246) #[] #[])] fun S=>ahJ<|dw _ _<|ah2 fun _ iT=>ahK fun _ iL=>adr S 3 [.mem 0 0] [(4,.func (.func 246) #[] #[]),(6,.i m.w)] fun S=>Sx.calls S 7 (IC m.w _) fun ac S=>Sx.nV S 27 [.mem 0 1,.mem 0 0,.mem 0 1,.mem 0 2,.mem 0 0,.mem 0 1] [(_,_,(!(!(side m.w))),.bool (side m.h))] [(34,.bool ((((!(side m.w))||(!(side m.h)))||(decide (65536<(IntKind.i64.wrap (m.w*m.h)))))||(((m.l.length:Int)) != (IntKind.i64.wrap (m.w*m.h)))))] ⟨fun u hC g=>ah0 (IC m.h _),trivial⟩ fun ac u E8 S=>ahJ (iL _ _ ?_);refine ahN S (fun hc9=>?_) (fun hc9=>?_)
 ·refine ahK fun _ gu=>adr S 1 [] [(2,.z)] fun S=>ahJ<|gu _ _<|ahM S results193 ?_;exact⟨aH (abk (Iy▸hc9)),S.E⟩
 refine ah4<|iT _ _<|ahK fun _ dO=>adr S 2 [.mem 0 2] [(36,.slice a m.l.length cap)] fun S=>ahS S 37 (IB (hq.below S.E)) fun ac u yw S=>adr S 2 [] [(2,.bool (!(!(m.l.all dA.valid))))] fun S=>ahJ<|dO _ _<|ahM S results193 ?_;exact⟨aH (Yr (Iy▸hc9)),S.E⟩
theorem qV{w:World}{m n:cZ}(h:m.ok w)(h':n.ok w) :
  Calls prog 73 #[m.v,n.v] w fun e w'=>e = .returned (.bool (m.eq n))∧Ext w w':=by
 skip;refine ahO func73 ntmps73 fun ac S=>ahK fun _ aY=>ahL S 2 m.cells fun ac u b2 E3 hb4 S=>ahL S 3 n.cells fun ac u b5 E6 hb7 S=>adr S 1 [] [(4,.z)] fun S=>ahJ<|aY _ _<|ahK fun _ dR=>Sx.nV S 20 [.mem 1 0,.mem 0 0,.mem 1 1,.mem 0 1,.mem 1 2,.mem 0 2] [(_,_,(((m.w)==n.w)&&((m.h)==n.h)),.bool (m.l=n.l))] [(4,.bool ((((m.w)==n.w)&&((m.h)==n.h))&&(decide (m.l=n.l))))] ⟨fun u hC g=>Qh (h.2.2.below (Ext.trans' S.E hC)) (h'.2.2.below (Ext.trans' S.E hC)),trivial⟩ fun ac u E9 S=>ahJ<|dR _ _<|ahM S results73 ?_;exact⟨aH abl,S.E⟩
theorem DF{w:World}{v:Value}{l:List eY}(h:aN 5 eY.cells w v l) :
  Calls prog 346 #[v] w fun e w'=>e = .returned (.bool (gK l))∧Ext w w':=by
 obtain⟨a,cap,rfl⟩:=h.shape;have hmax:l.length≤9223372036854775807:=h.len;refine ahO func346 ntmps346 fun ac S=>ahK fun _ aY=>adr S 1 [] [(2,.z)] fun S=>ahJ<|aY _ _<|ah2 fun _ fA=>ahK fun _ jw=>adr S 8 [] [(13,.bool ((decide ((l.length:Int)<1))||(decide (16<(l.length:Int)))))] fun S=>ahJ (jw _ _ ?_);refine ahN S (fun hc4=>?_) (fun hc4=>?_)
 ·refine ahK fun _ dw=>adr S 1 [] [(2,.z)] fun S=>ahJ<|dw _ _<|ahM S results346 ?_;exact⟨aH (Ql hc4),S.E⟩
 refine ah4<|fA _ _<|ahK fun _ iT=>adr S 1 [] [(3,.i 0)] fun S=>ahJ<|iT _ _<|ah2 fun _ iL=>ahK fun _ dR=>adr S 3 [] [(14,.slice a l.length cap),(15,.i l.length),(16,.i 0)] fun S=>ahJ<|dR _ _<|ah5 ?_;refine aiM (ι:=Nat×Int) (fun p a' w'=>p.1≤l.length∧(fC 0 l=fC p.2 (l.drop p.1))∧Sx.St w a' w' 32 [(0,.slice a l.length cap),(2,.z),(3,.i p.2),(14,.slice a l.length cap),(15,.i l.length),(16,.i p.1)] [] []) (fun p=>l.length-p.1) (0,0) ⟨aij _,rfl,S.sn⟩ ?_;rintro⟨k,last⟩ ac u hI;try dsimp only at hI
 obtain⟨hk,hR,S⟩:=hI;refine ahK fun _ iD=>adr S 1 [] [(17,.bool ((k:Int)<(l.length:Int)))] fun S=>ahJ<|iD _ _<|ah2 (fun _ gu=>?_);refine ahN S (fun jV=>?_) (fun jV=>?_)
 ·refine ah4<|gu _ _<|ah2 fun _ fD=>ah5<|ahK (fun _ iI=>?_);have kY:k<l.length:=by have:=ain jV; omega
  obtain⟨b14,Z9,rfl,x20,qH,xW,Fj⟩:=aiy h (fun _=>rfl) (k) kY;have S:=S.view0 xW Fj;refine adr S 2 [.idx k l.length,.mem 0 0] [(19,.agg x20.cells.toArray)] (hk:=⟨kY,trivial⟩) fun S=>ahL S 5 [.i 0,.u 0,.u 0,.u 0,.u 0] fun ac u b22 PK Yt S=>ahP S 0 (off:=0) (cs:=x20.cells) rfl fun u Uz S=>ahJ<|iI _ _<|ah2 fun _ jA=>ahK fun _ l9=>adr S 9 [.mem 0 0,.mem 0 0] [(28,.bool ((decide (x20.o<last))||(decide (65536<x20.o))))] fun S=>ahJ (l9 _ _ ?_);refine ahN S (fun hc28=>?_) (fun hc28=>?_)
  ·refine ahK fun _ uJ=>adr S 1 [] [(2,.z)] fun S=>ahJ<|uJ _ _<|ahM S results346 ?_;exact⟨aH (Qn hc4 kY hR (by rw[qH]; exact hc28)),S.E⟩
  refine ah4<|jA _ _<|aia<|adr S 3 [.mem 0 0] [(3,.i x20.o)] fun S=>ahJ<|fD _ _<|aia<|adr S 2 [.re 31 (.i (IntKind.i64.wrap ((k:Int)+1))) (.i (k+1:Nat))] [(16,.i (k+1:Nat))] (hk:=⟨ahY (by omega),trivial⟩) fun S=>ahJ ?_;show ∃i',_∧_;exact⟨((k+1),x20.o),⟨by omega,(by rw[←qH]; exact Ld kY hR (by rw[qH]; exact hc28)),(S.sub [(0,.slice (some ⟨b14,Z9,none⟩) l.length cap),(2,.z),(3,.i x20.o),(14,.slice (some ⟨b14,Z9,none⟩) l.length cap),(15,.i l.length),(16,.i (k+1:Nat))]).nC.jE 1⟩,by show _-_<_-_; omega⟩
 refine ail<|iL _ _<|ahK fun _ oJ=>adr S 1 [] [(2,.bool true)] fun S=>ahJ<|oJ _ _<|ahM S results346 ?_;exact⟨aH (Qm hc4 (by have:=aiu jV; omega) hR),S.E⟩
theorem UA(n:Int)(w:World) :
  Calls prog 191 #[.i n] w fun e w'=>e = .returned (.bool (decide (1≤n)&&decide (n≤13)))∧w=w':=by
 skip;refine ahO func191 ntmps191 fun ac S=>ahK fun _ aY=>adr S 1 [] [(2,.z)] fun S=>ahJ<|aY _ _<|ahK fun _ fA=>adr S 7 [] [(2,.bool ((decide (1≤n))&&(decide (n≤13))))] fun S=>ahJ<|fA _ _<|ahM S results191 ?_;exact⟨rfl,rfl⟩
theorem AY(n:Int)(w:World) :
  Calls prog 323 #[.i n] w fun e w'=>e = .returned (.bool (iM n))∧w=w':=by
 skip;refine ahO func323 ntmps323 fun ac S=>ahK fun _ aY=>adr S 1 [] [(2,.z)] fun S=>ahJ<|aY _ _<|ahK fun _ fA=>adr S 7 [] [(2,.bool ((decide (1≤n))&&(decide (n≤3))))] fun S=>ahJ<|fA _ _<|ahM S results323 ?_;exact⟨rfl,rfl⟩
theorem UC(n:Int)(w:World) :
  Calls prog 286 #[.i n] w fun e w'=>e = .returned (.bool (decide (1≤n)&&decide (n≤16384)))∧w=w':=by
 skip;refine ahO func286 ntmps286 fun ac S=>ahK fun _ aY=>adr S 1 [] [(2,.z)] fun S=>ahJ<|aY _ _<|ahK fun _ fA=>adr S 7 [] [(2,.bool ((decide (1≤n))&&(decide (n≤16384))))] fun S=>ahJ<|fA _ _<|ahM S results286 ?_;exact⟨rfl,rfl⟩
open Go.RowKit
variable{α:Type}
def nD(l s:List Int):Option Bool:=if s.all (fun x=>decide (0≤x)&&decide (x≤1048576))then some (((l.length:Int)==0)||s.any (fun x=>decide (0<x)))else none
def qW(l:List Int):Bool:=l.all (fun x=>decide (0≤x)&&decide (x≤1048576))&&((((((l.length:Int)==0)||l.any (fun x=>decide (0<x)))&&((Int.tmod (l.length:Int) 2)==0))&&(decide ((l.length:Int)≤16))))
theorem Qo(l:List Int):nD l (l.take 0)=some ((l.length:Int)==0):=by simp[nD]
theorem Qp{l:List Int}{k:Nat}{any:Bool}(hk:k<l.length)(hR:nD l (l.take k)=some any)(hb:((decide (l[k]<0))||(decide (1048576<l[k])))=false):nD l (l.take (k+1))=some (any||(decide (0<l[k]))):=by
 unfold nD at hR ⊢;rw[ajc hk,List.all_append,List.any_append];simp only[aiX,aji]at hb;split at hR
 ·rename_i h;obtain rfl:=aik hR;rw[h];simp[show 0≤l[k] by omega,show l[k]≤1048576 by omega,Bool.or_assoc]
 cases hR
theorem UD{l:List Int}{k:Nat}{any:Bool}(hk:k<l.length)(hR:nD l (l.take k)=some any)(hb:((decide (l[k]<0))||(decide (1048576<l[k])))=true):false=qW l:=by
 simp only[ajX,aiz]at hb;unfold qW;rw[wU hk (by simp; omega)]; rfl
theorem UE{l:List Int}{k:Nat}{any:Bool}(hk:l.length≤k)(hR:nD l (l.take k)=some any):((any&&((Int.tmod (l.length:Int) 2)==0))&&(decide ((l.length:Int)≤16)))=qW l:=by
 unfold nD at hR;rw[aiC hk]at hR;split at hR
 ·rename_i h;obtain rfl:=aik hR;unfold qW;rw[h]; rfl
 cases hR
def bT(b:Bool)(n:Int):Value:=if b=true then .iface 180 (.agg #[.i n,.nilIface])else .nilIface
theorem Qq{b:Bool}{n:Int}{x:Operand}:∀w,(do eqGuard .neq 177 x (.const .nilIface) (bT b n) .nilIface; binOp .neq 177 (bT b n) .nilIface:Sem Value).run prog w = .ok (.bool (!(!b))) w:=fun w=>by
 cases b<;>simp[bT,go_sem]
def jm:List (Bool×Int)→Value
 | [] => .nilIface
 | p::l=>if p.1=true then .iface 180 (.agg #[.i 0,.iface 180 (.agg #[.i p.2,.nilIface])])else jm l
theorem Ll{w:World}{v:Value}{l:List Int}(h:bV Ib w v l) :
  Calls prog 287 #[v] w fun e w'=>e = .returned (.bool (qW l))∧Ext w w':=by
 obtain⟨a,cap,rfl⟩:=(nU h).shape;have hmax:l.length≤9223372036854775807:=(nU h).len;refine ahO func287 ntmps287 fun ac S=>ahK fun _ aY=>adr S 1 [] [(2,.z)] fun S=>ahJ<|aY _ _<|ahK fun _ fA=>adr S 4 [] [(3,.bool (((l.length:Int))==0))] fun S=>ahJ<|fA _ _<|ah2 fun _ jw=>ahK fun _ nT=>adr S 3 [] [(9,.slice a l.length cap),(10,.i l.length),(11,.i 0)] fun S=>ahJ<|nT _ _<|ah5 ?_;refine aiM (ι:=Nat×Bool) (fun p a' w'=>p.1≤l.length∧(nD l (l.take p.1)=some p.2)∧Sx.St w a' w' 39 [(0,.slice a l.length cap),(2,.z),(3,.bool p.2),(9,.slice a l.length cap),(10,.i l.length),(11,.i p.1)] [] []) (fun p=>l.length-p.1) (0,((l.length:Int)==0)) ⟨aij _,Qo l,S.sn⟩ ?_;rintro⟨k,any⟩ ac u hI;try dsimp only at hI
 obtain⟨hk,hR,S⟩:=hI;refine ahK fun _ dw=>adr S 1 [] [(12,.bool ((k:Int)<(l.length:Int)))] fun S=>ahJ<|dw _ _<|ah2 (fun _ iT=>?_);refine ahN S (fun vT=>?_) (fun vT=>?_)
 ·refine ah4<|iT _ _<|ah2 fun _ dR=>ah5<|ahK (fun _ iD=>?_);have qm:k<l.length:=by have:=ain vT; omega
  obtain⟨b10,o11,rfl,x16,vS,Lj,FT⟩:=aiy (nU h) (fun _=>rfl) (k) qm;have S:=S.view0 Lj FT;refine adr S 3 [.idx k l.length,.mem 0 0] [(5,.i x16)] (hk:=⟨qm,trivial⟩) fun S=>ahJ<|iD _ _<|ah2 fun _ jy=>ahK fun _ kX=>adr S 6 [] [(20,.bool ((decide (x16<0))||(decide (1048576<x16))))] fun S=>ahJ (kX _ _ ?_);refine ahN S (fun abn=>?_) (fun abn=>?_)
  ·refine ahK fun _ mX=>adr S 1 [] [(2,.z)] fun S=>ahJ<|mX _ _<|ahM S results287 ?_;exact⟨aH (UD qm hR (by rw[vS]; exact abn)),S.E⟩
  refine ah4<|jy _ _<|aia<|adr S 6 [] [(3,.bool (any||(decide (0<x16))))] fun S=>ahJ<|dR _ _<|aia<|adr S 2 [.re 26 (.i (IntKind.i64.wrap ((k:Int)+1))) (.i (k+1:Nat))] [(11,.i (k+1:Nat))] (hk:=⟨ahY (by omega),trivial⟩) fun S=>ahJ ?_;show ∃i',_∧_;exact⟨((k+1),any||(decide (0<x16))),⟨by omega,(by rw[←vS]; exact Qp qm hR (by rw[vS]; exact abn)),S.sn⟩,by show _-_<_-_; omega⟩
 refine ail<|jw _ _<|ahK fun _ kW=>adr S 13 [] [(2,.bool ((any&&(((Int.tmod (l.length:Int) 2))==0))&&(decide ((l.length:Int)≤16))))] fun S=>ahJ<|kW _ _<|ahM S results287 ?_;exact⟨aH (UE (by have:=aiu vT; omega) hR),S.E⟩
def aZ.valid(p:aZ):Bool:=(((((((decide (1≤p.width)&&decide (p.width≤16384))&&((((p.join)==1)||((p.join)==2))||((p.join)==3)))&&((((p.cap)==3)||((p.cap)==4))||((p.cap)==5)))&&(decide (256≤p.dZ)))&&(decide (p.dZ≤65536)))&&(qW p.dash))&&(decide (0≤p.phase)))&&(decide (p.phase≤1048576))
def aZ.eq(p q:aZ):Bool:=((((((p.width)==q.width)&&((p.join)==q.join))&&((p.cap)==q.cap))&&((p.dZ)==q.dZ))&&((p.phase)==q.phase))&&(decide (p.dash=q.dash))
theorem Qr{w:World}{p:aZ}(h:p.ok w) :
  Calls prog 244 #[p.v] w fun e w'=>e = .returned (.bool p.valid)∧Ext w w':=by
 skip;refine ahO func244 ntmps244 fun ac S=>ahK fun _ aY=>ahL S 1 p.cells fun ac u b2 E3 hb4 S=>adr S 1 [] [(2,.z)] fun S=>ahJ<|aY _ _<|ahK fun _ dw=>adr S 14 [.mem 0 1,.mem 0 1,.mem 0 1] [(3,.bool ((((p.join)==1)||((p.join)==2))||((p.join)==3)))] fun S=>ahJ<|dw _ _<|ahK fun _ iT=>adr S 14 [.mem 0 2,.mem 0 2,.mem 0 2] [(4,.bool ((((p.cap)==3)||((p.cap)==4))||((p.cap)==5)))] fun S=>ahJ<|iT _ _<|ahK fun _ iL=>adr S 2 [.mem 0 0] [(32,.i p.width)] fun S=>Sx.calls S 33 (UC p.width _) fun ac S=>Sx.nV S 32 [.mem 0 3,.mem 0 3,.mem 0 4,.mem 0 5,.mem 0 5] [(_,_,(((((decide (1≤p.width)&&decide (p.width≤16384))&&((((p.join)==1)||((p.join)==2))||((p.join)==3)))&&((((p.cap)==3)||((p.cap)==4))||((p.cap)==5)))&&(decide (256≤p.dZ)))&&(decide (p.dZ≤65536))),.bool (qW p.dash))] [(2,.bool ((((((((decide (1≤p.width)&&decide (p.width≤16384))&&((((p.join)==1)||((p.join)==2))||((p.join)==3)))&&((((p.cap)==3)||((p.cap)==4))||((p.cap)==5)))&&(decide (256≤p.dZ)))&&(decide (p.dZ≤65536)))&&(qW p.dash))&&(decide (0≤p.phase)))&&(decide (p.phase≤1048576))))] ⟨fun u hC g=>Ll (h.2.2.2.2.1.below (Ext.trans' S.E hC)),trivial⟩ fun ac u E8 S=>ahJ<|iL _ _<|ahM S results244 ?_;exact⟨rfl,S.E⟩
theorem sH{w:World}{p q:aZ}(h:p.ok w)(h':q.ok w) :
  Calls prog 72 #[p.v,q.v] w fun e w'=>e = .returned (.bool (p.eq q))∧Ext w w':=by
 skip;refine ahO func72 ntmps72 fun ac S=>ahK fun _ aY=>ahL S 2 p.cells fun ac u b2 E3 hb4 S=>ahL S 3 q.cells fun ac u b5 E6 hb7 S=>adr S 1 [] [(4,.z)] fun S=>ahJ<|aY _ _<|ahK fun _ dR=>Sx.nV S 41 [.mem 1 0,.mem 0 0,.mem 1 1,.mem 0 1,.mem 1 2,.mem 0 2,.mem 1 3,.mem 0 3,.mem 1 5,.mem 0 5,.mem 1 4,.mem 0 4] [(_,_,((((((p.width)==q.width)&&((p.join)==q.join))&&((p.cap)==q.cap))&&((p.dZ)==q.dZ))&&((p.phase)==q.phase)),.bool (p.dash=q.dash))] [(4,.bool (((((((p.width)==q.width)&&((p.join)==q.join))&&((p.cap)==q.cap))&&((p.dZ)==q.dZ))&&((p.phase)==q.phase))&&(decide (p.dash=q.dash))))] ⟨fun u hC g=>Qi (nU (h.2.2.2.2.1.below (Ext.trans' S.E hC))) (nU (h'.2.2.2.2.1.below (Ext.trans' S.E hC))),trivial⟩ fun ac u E9 S=>ahJ<|dR _ _<|ahM S results72 ?_;exact⟨rfl,S.E⟩
theorem IE(n:Int)(w:World) :
  Calls prog 184 #[.i n] w fun e w'=>e = .returned (.bool ((n==1)||(n==2)))∧w=w':=by
 skip;refine ahO func184 ntmps184 fun ac S=>ahK fun _ aY=>adr S 1 [] [(2,.z)] fun S=>ahJ<|aY _ _<|ahK fun _ fA=>adr S 7 [] [(2,.bool (((n)==1)||((n)==2)))] fun S=>ahJ<|fA _ _<|ahM S results184 ?_;exact⟨rfl,rfl⟩
theorem gI(b:Bool)(n:Int)(w:World) :
  Calls prog 186 #[.bool b,.i n] w fun e w'=>e = .returned (bT b n)∧w=w':=by
 skip;refine ahO func186 ntmps186 fun ac S=>ahK fun _ aY=>adr S 1 [] [(4,.nilIface)] fun S=>ahJ<|aY _ _<|ah2 fun _ fA=>ahK fun _ jw=>adr S 2 [] [(6,.bool (!b))] fun S=>ahJ (jw _ _ ?_);refine ahN S (fun hc4=>?_) (fun hc4=>?_)
 ·refine ahK fun _ dw=>adr S 1 [] [(4,.nilIface)] fun S=>ahJ<|dw _ _<|ahM S results186 ?_;obtain rfl:b=false:=by simpa using hc4
  exact⟨rfl,rfl⟩
 refine ah4<|fA _ _<|ahK fun _ iT=>adr S 4 [] [(4,.iface 180 (.agg #[.i n,.nilIface]))] fun S=>ahJ<|iT _ _<|ahM S results186 ?_;obtain rfl:b=true:=by simpa using hc4
 exact⟨rfl,rfl⟩
theorem first_any{w:World}{v:Value}{l:List (Bool×Int)}(h:aN 1 (fun p=>[bT p.1 p.2]) w v l) :
  Calls prog 185 #[v] w fun e w'=>e = .returned (jm l)∧Ext w w':=by
 obtain⟨a,cap,rfl⟩:=h.shape;have hmax:l.length≤9223372036854775807:=h.len;refine ahO func185 ntmps185 fun ac S=>ahK fun _ aY=>adr S 1 [] [(2,.nilIface)] fun S=>ahJ<|aY _ _<|ah2 fun _ fA=>ahK fun _ jw=>adr S 3 [] [(5,.slice a l.length cap),(6,.i l.length),(7,.i 0)] fun S=>ahJ<|jw _ _<|ah5 ?_;refine aiM (ι:=Nat) (fun p a' w'=>p≤l.length∧(jm l=jm (l.drop p))∧Sx.St w a' w' 17 [(0,.slice a l.length cap),(2,.nilIface),(5,.slice a l.length cap),(6,.i l.length),(7,.i p)] [] []) (fun p=>l.length-p) (0) ⟨aij _,rfl,S.sn⟩ ?_;rintro k ac u hI;try dsimp only at hI
 obtain⟨hk,hR,S⟩:=hI;refine ahK fun _ nT=>adr S 1 [] [(8,.bool ((k:Int)<(l.length:Int)))] fun S=>ahJ<|nT _ _<|ah2 (fun _ dw=>?_);refine ahN S (fun hc6=>?_) (fun hc6=>?_)
 ·refine ah4<|dw _ _<|ah2 fun _ iL=>ah5<|ahK (fun _ dR=>?_);have fJ:k<l.length:=by have:=ain hc6; omega
  obtain⟨b9,o10,rfl,x15,jg,hb16,qM⟩:=aiy h (fun _=>rfl) (k) fJ;have S:=S.view0 hb16 qM;refine adr S 3 [.idx k l.length,.mem 0 0] [(4,bT x15.1 x15.2)] (hk:=⟨fJ,trivial⟩) fun S=>ahJ<|dR _ _<|ahK fun _ iq=>adr S 2 [.cmp .neq 177 (.tmp 11) (.const .nilIface) (bT x15.1 x15.2) .nilIface (.bool (!(!x15.1)))] [(12,.bool (!(!x15.1)))] (hk:=⟨Qq,trivial⟩) fun S=>ahJ (iq _ _ ?_);refine ahN S (fun hc18=>?_) (fun hc18=>?_)
  ·have hb:x15.1=true:=by simpa using hc18
   rw[show bT x15.1 x15.2 = .iface 180 (.agg #[.i x15.2,.nilIface])from aib hb]at S;refine ahK fun _ kX=>adr S 4 [] [(2,.iface 180 (.agg #[.i 0,.iface 180 (.agg #[.i x15.2,.nilIface])]))] fun S=>ahJ<|kX _ _<|ahM S results185 ?_;exact⟨by rw[hR,ajg fJ,jg,jm,aib hb],S.E⟩
  refine ah4<|iL _ _<|aia<|adr S 2 [.re 16 (.i (IntKind.i64.wrap ((k:Int)+1))) (.i (k+1:Nat))] [(7,.i (k+1:Nat))] (hk:=⟨ahY (by omega),trivial⟩) fun S=>ahJ ?_;show ∃i',_∧_;exact⟨(k+1),⟨by omega,(by rw[hR,ajg fJ,jg,jm,ah7 (by simpa using hc18)]),S.sn⟩,by show _-_<_-_; omega⟩
 refine ail<|fA _ _<|ahK fun _ kP=>adr S 1 [] [(2,.nilIface)] fun S=>ahJ<|kP _ _<|ahM S results185 ?_;exact⟨by rw[hR,ajB (by have:=aiu hc6; omega)]; rfl,S.E⟩
end Go.Proofs.YtapmgonflgahbaaGreatDoor
