/- slices.Equal of the rows that nodes hold. -/
import Derived.Test.YtfmkkemfhjkajaaGreatDoorPath
set_option linter.unusedVariables false
set_option maxHeartbeats 1600000
set_option maxRecDepth 100000
namespace Go.Proofs.YtfmkkemfhjkajaaGreatDoor
open _root_.Go.Proofs.Tryz
open Go.RowKit
variable{α:Type}
theorem aB{a b:Bool}(h:a=b):Ending.returned (.bool a) = .returned (.bool b):=by rw[h]
theorem nX [DecidableEq α]{l m:List α}(h:((l.length:Int) != (m.length:Int))=true):false=decide (l=m):=by
 have h1:l≠m:=fun e=>by subst e; simp at h
 simp[h1]
theorem jh{l m:List α}(h:((l.length:Int) != (m.length:Int))=false):l.length=m.length:=by simp at h; omega
theorem uP [DecidableEq α]{l m:List α}{k:Nat}(hk:l.length≤k)(h:l.length=m.length)(hR:l.take k=m.take k):true=decide (l=m):=by
 rw[anW hk,anW (by omega)]at hR; simp[hR]
theorem uO [DecidableEq α]{l m:List α}{k:Nat}(h1:k<l.length)(h2:k<m.length)(h:l[k]≠m[k]):false=decide (l=m):=by
 have h1:l≠m:=fun e=>by subst e; exact h rfl
 simp[h1]
theorem nY{l m:List α}{k:Nat}(h1:k<l.length)(h2:k<m.length)(hR:l.take k=m.take k)(h:l[k]=m[k]):l.take (k+1)=m.take (k+1):=by
 rw[an2 h1,an2 h2,hR,h]
theorem aaD{x y:eH}(h:(!((x.verb==y.verb)&&((x.a.x==y.a.x)&&((x.a.y==y.a.y)&&((x.b.x==y.b.x)&&((x.b.y==y.b.y)&&((x.c.x==y.c.x)&&(x.c.y==y.c.y))))))))=false):x=y:=by
 obtain⟨v,⟨a,b⟩,⟨c,d⟩,⟨e,f⟩⟩:=x;obtain⟨v',⟨a',b'⟩,⟨c',d'⟩,⟨e',f'⟩⟩:=y;simp at h ⊢; omega
theorem Gu{a b:UInt8}(h:(a.toNat:Int)=(b.toNat:Int)):a=b:=UInt8.toNat_inj.1 (by omega)
theorem Tz{x y:dO}(h:(!(((x.r.toNat:Int)==y.r.toNat)&&(((x.g.toNat:Int)==y.g.toNat)&&(((x.b.toNat:Int)==y.b.toNat)&&((x.a.toNat:Int)==y.a.toNat)))))=false):x=y:=by
 obtain⟨a,b,c,d⟩:=x;obtain⟨a',b',c',d'⟩:=y;simp only[ao6,anM,anO]at h;rw[Gu h.1,Gu h.2.1,Gu h.2.2.1,Gu h.2.2.2]
theorem VU{x y:gu}(h:(!((x.o==y.o)&&(((x.c.r.toNat:Int)==y.c.r.toNat)&&(((x.c.g.toNat:Int)==y.c.g.toNat)&&(((x.c.b.toNat:Int)==y.c.b.toNat)&&((x.c.a.toNat:Int)==y.c.a.toNat))))))=false):x=y:=by
 obtain⟨o,c⟩:=x;obtain⟨o',c'⟩:=y;simp only[ao6,anM,anO]at h;have:c=c':=Tz (by simp only[ao6,anM,anO]; exact h.2);rw[h.1,this]
theorem aaH{x y:Int}(h:(x != y)=false):x=y:=by simpa using h
theorem X0{w:World}{v u:Value}{l m:List eH}(h:aN 7 eH.cells w v l)(h':aN 7 eH.cells w u m) :
  Calls prog 137 #[v,u] w fun e w'=>e = .returned (.bool (l=m))∧Ext w w':=by
 obtain⟨a,cap,rfl⟩:=h.shape;obtain⟨d,cap',rfl⟩:=h'.shape;have hmax:l.length≤9223372036854775807:=h.len;refine am0 func137 ntmps137 fun ac S=>amW fun _ aO=>adr S 1 [] [(4,.bool false)] fun S=>amV<|aO _ _<|anj fun _ eG=>amW fun _ gY=>adr S 5 [] [(10,.bool (((l.length:Int)) != (m.length:Int)))] fun S=>amV (gY _ _ ?_);refine amX S (fun hc4=>?_) (fun hc4=>?_)
 ·refine amW fun _ dA=>adr S 1 [] [(4,.bool false)] fun S=>amV<|dA _ _<|amZ S results137 ?_;exact⟨aB (nX hc4),S.E⟩
 refine ano<|eG _ _<|anj fun _ iQ=>amW fun _ jB=>adr S 3 [] [(12,.i l.length),(13,.i 0)] fun S=>amV<|jB _ _<|anp ?_;refine anP (ι:=Nat) (fun p a' w'=>p≤l.length∧(l.take p=m.take p)∧Sx.St w a' w' 26 [(0,.slice a l.length cap),(1,.slice d m.length cap'),(4,.bool false),(12,.i l.length),(13,.i p)] [] []) (fun p=>l.length-p) (0) ⟨anz _,rfl,S.sn⟩ ?_;rintro k ac u hI;try dsimp only at hI
 obtain⟨hk,hR,S⟩:=hI;refine amW fun _ dJ=>adr S 1 [] [(14,.bool ((k:Int)<(l.length:Int)))] fun S=>amV<|dJ _ _<|anj (fun _ gZ=>?_);refine amX S (fun bM=>?_) (fun bM=>?_)
 ·refine ano<|gZ _ _<|anj fun _ bW=>anp<|amW fun _ cZ=>adr S 2 [] [(5,.i k)] fun S=>amV<|cZ _ _<|anj (fun _ gJ=>?_);have lg:k<l.length:=by have:=anC bM; omega
  obtain⟨b15,o16,rfl,x21,vF,Du,Dv⟩:=anF h (fun _=>rfl) (k) lg;have S:=S.view0 Du Dv;have kF:k<m.length:=by have:=jh hc4; have:=anC bM; omega
  obtain⟨b23,o24,rfl,y29,hx27,zJ,Aw⟩:=anF h' (fun _=>rfl) (k) kF;have S:=S.view0 zJ Aw;refine am6 S 9 [.idx k l.length,.mem 1 0,.idx k m.length,.mem 0 0,.cmp .neq 62 (.tmp 19) (.tmp 23) (.agg #[.i x21.verb,.i x21.a.x,.i x21.a.y,.i x21.b.x,.i x21.b.y,.i x21.c.x,.i x21.c.y]) (.agg #[.i y29.verb,.i y29.a.x,.i y29.a.y,.i y29.b.x,.i y29.b.y,.i y29.c.x,.i y29.c.y]) (.bool (!((x21.verb==y29.verb)&&((x21.a.x==y29.a.x)&&((x21.a.y==y29.a.y)&&((x21.b.x==y29.b.x)&&((x21.b.y==y29.b.y)&&((x21.c.x==y29.c.x)&&(x21.c.y==y29.c.y)))))))))] [] [(24,.bool (!((x21.verb==y29.verb)&&((x21.a.x==y29.a.x)&&((x21.a.y==y29.a.y)&&((x21.b.x==y29.b.x)&&((x21.b.y==y29.b.y)&&((x21.c.x==y29.c.x)&&(x21.c.y==y29.c.y)))))))))] trivial (hk:=⟨lg,kF,ang (fun _=>aeL ..) (by kernel_rfl),trivial⟩) fun ac u Dj S=>amV (gJ _ _ ?_);refine amX S (fun hc31=>?_) (fun hc31=>?_)
  ·refine amW fun _ jF=>adr S 1 [] [(4,.bool false)] fun S=>amV<|jF _ _<|amZ S results137 ?_;exact⟨aB (uO lg kF (fun e=>by have hq:=hc31; rw[vF,hx27]at e; subst e; simp at hq)),S.E⟩
  refine ano<|bW _ _<|ant<|adr S 2 [.re 25 (.i (IntKind.i64.wrap ((k:Int)+1))) (.i (k+1:Nat))] [(13,.i (k+1:Nat))] (hk:=⟨am8 (by omega),trivial⟩) fun S=>amV ?_;show ∃i',_∧_;exact⟨(k+1),⟨by omega,(nY lg kF hR (by rw[vF,hx27]; exact aaD hc31)),S.sn⟩,by show _-_<_-_; omega⟩
 refine anB<|iQ _ _<|amW fun _ mF=>adr S 1 [] [(4,.bool true)] fun S=>amV<|mF _ _<|amZ S results137 ?_;exact⟨aB (uP (by have:=anE bM; omega) (jh hc4) hR),S.E⟩
theorem TG{w:World}{v u:Value}{l m:List gu}(h:aN 5 gu.cells w v l)(h':aN 5 gu.cells w u m) :
  Calls prog 138 #[v,u] w fun e w'=>e = .returned (.bool (l=m))∧Ext w w':=by
 obtain⟨a,cap,rfl⟩:=h.shape;obtain⟨d,cap',rfl⟩:=h'.shape;have hmax:l.length≤9223372036854775807:=h.len;refine am0 func138 ntmps138 fun ac S=>amW fun _ aO=>adr S 1 [] [(4,.bool false)] fun S=>amV<|aO _ _<|anj fun _ eG=>amW fun _ gY=>adr S 5 [] [(10,.bool (((l.length:Int)) != (m.length:Int)))] fun S=>amV (gY _ _ ?_);refine amX S (fun hc4=>?_) (fun hc4=>?_)
 ·refine amW fun _ dA=>adr S 1 [] [(4,.bool false)] fun S=>amV<|dA _ _<|amZ S results138 ?_;exact⟨aB (nX hc4),S.E⟩
 refine ano<|eG _ _<|anj fun _ iQ=>amW fun _ jB=>adr S 3 [] [(12,.i l.length),(13,.i 0)] fun S=>amV<|jB _ _<|anp ?_;refine anP (ι:=Nat) (fun p a' w'=>p≤l.length∧(l.take p=m.take p)∧Sx.St w a' w' 26 [(0,.slice a l.length cap),(1,.slice d m.length cap'),(4,.bool false),(12,.i l.length),(13,.i p)] [] []) (fun p=>l.length-p) (0) ⟨anz _,rfl,S.sn⟩ ?_;rintro k ac u hI;try dsimp only at hI
 obtain⟨hk,hR,S⟩:=hI;refine amW fun _ dJ=>adr S 1 [] [(14,.bool ((k:Int)<(l.length:Int)))] fun S=>amV<|dJ _ _<|anj (fun _ gZ=>?_);refine amX S (fun bM=>?_) (fun bM=>?_)
 ·refine ano<|gZ _ _<|anj fun _ bW=>anp<|amW fun _ cZ=>adr S 2 [] [(5,.i k)] fun S=>amV<|cZ _ _<|anj (fun _ gJ=>?_);have lg:k<l.length:=by have:=anC bM; omega
  obtain⟨b15,o16,rfl,x21,vF,Du,Dv⟩:=anF h (fun _=>rfl) (k) lg;have S:=S.view0 Du Dv;have kF:k<m.length:=by have:=jh hc4; have:=anC bM; omega
  obtain⟨b23,o24,rfl,y29,hx27,zJ,Aw⟩:=anF h' (fun _=>rfl) (k) kF;have S:=S.view0 zJ Aw;refine am6 S 9 [.idx k l.length,.mem 1 0,.idx k m.length,.mem 0 0,.cmp .neq 155 (.tmp 19) (.tmp 23) (.agg #[.i x21.o,.int .u8 (x21.c.r.toNat:Int),.int .u8 (x21.c.g.toNat:Int),.int .u8 (x21.c.b.toNat:Int),.int .u8 (x21.c.a.toNat:Int)]) (.agg #[.i y29.o,.int .u8 (y29.c.r.toNat:Int),.int .u8 (y29.c.g.toNat:Int),.int .u8 (y29.c.b.toNat:Int),.int .u8 (y29.c.a.toNat:Int)]) (.bool (!((x21.o==y29.o)&&(((x21.c.r.toNat:Int)==(y29.c.r.toNat:Int))&&(((x21.c.g.toNat:Int)==(y29.c.g.toNat:Int))&&(((x21.c.b.toNat:Int)==(y29.c.b.toNat:Int))&&((x21.c.a.toNat:Int)==(y29.c.a.toNat:Int))))))))] [] [(24,.bool (!((x21.o==y29.o)&&(((x21.c.r.toNat:Int)==(y29.c.r.toNat:Int))&&(((x21.c.g.toNat:Int)==(y29.c.g.toNat:Int))&&(((x21.c.b.toNat:Int)==(y29.c.b.toNat:Int))&&((x21.c.a.toNat:Int)==(y29.c.a.toNat:Int))))))))] trivial (hk:=⟨lg,kF,ang (fun _=>aaE ..) (by kernel_rfl),trivial⟩) fun ac u Dj S=>amV (gJ _ _ ?_);refine amX S (fun hc31=>?_) (fun hc31=>?_)
  ·refine amW fun _ jF=>adr S 1 [] [(4,.bool false)] fun S=>amV<|jF _ _<|amZ S results138 ?_;exact⟨aB (uO lg kF (fun e=>by have hq:=hc31; rw[vF,hx27]at e; subst e; simp at hq)),S.E⟩
  refine ano<|bW _ _<|ant<|adr S 2 [.re 25 (.i (IntKind.i64.wrap ((k:Int)+1))) (.i (k+1:Nat))] [(13,.i (k+1:Nat))] (hk:=⟨am8 (by omega),trivial⟩) fun S=>amV ?_;show ∃i',_∧_;exact⟨(k+1),⟨by omega,(nY lg kF hR (by rw[vF,hx27]; exact VU hc31)),S.sn⟩,by show _-_<_-_; omega⟩
 refine anB<|iQ _ _<|amW fun _ mF=>adr S 1 [] [(4,.bool true)] fun S=>amV<|mF _ _<|amZ S results138 ?_;exact⟨aB (uP (by have:=anE bM; omega) (jh hc4) hR),S.E⟩
theorem X3{w:World}{v u:Value}{l m:List dO}(h:aN 4 dO.cells w v l)(h':aN 4 dO.cells w u m) :
  Calls prog 140 #[v,u] w fun e w'=>e = .returned (.bool (l=m))∧Ext w w':=by
 obtain⟨a,cap,rfl⟩:=h.shape;obtain⟨d,cap',rfl⟩:=h'.shape;have hmax:l.length≤9223372036854775807:=h.len;refine am0 func140 ntmps140 fun ac S=>amW fun _ aO=>adr S 1 [] [(4,.bool false)] fun S=>amV<|aO _ _<|anj fun _ eG=>amW fun _ gY=>adr S 5 [] [(10,.bool (((l.length:Int)) != (m.length:Int)))] fun S=>amV (gY _ _ ?_);refine amX S (fun hc4=>?_) (fun hc4=>?_)
 ·refine amW fun _ dA=>adr S 1 [] [(4,.bool false)] fun S=>amV<|dA _ _<|amZ S results140 ?_;exact⟨aB (nX hc4),S.E⟩
 refine ano<|eG _ _<|anj fun _ iQ=>amW fun _ jB=>adr S 3 [] [(12,.i l.length),(13,.i 0)] fun S=>amV<|jB _ _<|anp ?_;refine anP (ι:=Nat) (fun p a' w'=>p≤l.length∧(l.take p=m.take p)∧Sx.St w a' w' 26 [(0,.slice a l.length cap),(1,.slice d m.length cap'),(4,.bool false),(12,.i l.length),(13,.i p)] [] []) (fun p=>l.length-p) (0) ⟨anz _,rfl,S.sn⟩ ?_;rintro k ac u hI;try dsimp only at hI
 obtain⟨hk,hR,S⟩:=hI;refine amW fun _ dJ=>adr S 1 [] [(14,.bool ((k:Int)<(l.length:Int)))] fun S=>amV<|dJ _ _<|anj (fun _ gZ=>?_);refine amX S (fun bM=>?_) (fun bM=>?_)
 ·refine ano<|gZ _ _<|anj fun _ bW=>anp<|amW fun _ cZ=>adr S 2 [] [(5,.i k)] fun S=>amV<|cZ _ _<|anj (fun _ gJ=>?_);have lg:k<l.length:=by have:=anC bM; omega
  obtain⟨b15,o16,rfl,x21,vF,Du,Dv⟩:=anF h (fun _=>rfl) (k) lg;have S:=S.view0 Du Dv;have kF:k<m.length:=by have:=jh hc4; have:=anC bM; omega
  obtain⟨b23,o24,rfl,y29,hx27,zJ,Aw⟩:=anF h' (fun _=>rfl) (k) kF;have S:=S.view0 zJ Aw;refine am6 S 9 [.idx k l.length,.mem 1 0,.idx k m.length,.mem 0 0,.cmp .neq 122 (.tmp 19) (.tmp 23) (.agg #[.int .u8 (x21.r.toNat:Int),.int .u8 (x21.g.toNat:Int),.int .u8 (x21.b.toNat:Int),.int .u8 (x21.a.toNat:Int)]) (.agg #[.int .u8 (y29.r.toNat:Int),.int .u8 (y29.g.toNat:Int),.int .u8 (y29.b.toNat:Int),.int .u8 (y29.a.toNat:Int)]) (.bool (!(((x21.r.toNat:Int)==(y29.r.toNat:Int))&&(((x21.g.toNat:Int)==(y29.g.toNat:Int))&&(((x21.b.toNat:Int)==(y29.b.toNat:Int))&&((x21.a.toNat:Int)==(y29.a.toNat:Int)))))))] [] [(24,.bool (!(((x21.r.toNat:Int)==(y29.r.toNat:Int))&&(((x21.g.toNat:Int)==(y29.g.toNat:Int))&&(((x21.b.toNat:Int)==(y29.b.toNat:Int))&&((x21.a.toNat:Int)==(y29.a.toNat:Int)))))))] trivial (hk:=⟨lg,kF,ang (fun _=>aeM ..) (by kernel_rfl),trivial⟩) fun ac u Dj S=>amV (gJ _ _ ?_);refine amX S (fun hc31=>?_) (fun hc31=>?_)
  ·refine amW fun _ jF=>adr S 1 [] [(4,.bool false)] fun S=>amV<|jF _ _<|amZ S results140 ?_;exact⟨aB (uO lg kF (fun e=>by have hq:=hc31; rw[vF,hx27]at e; subst e; simp at hq)),S.E⟩
  refine ano<|bW _ _<|ant<|adr S 2 [.re 25 (.i (IntKind.i64.wrap ((k:Int)+1))) (.i (k+1:Nat))] [(13,.i (k+1:Nat))] (hk:=⟨am8 (by omega),trivial⟩) fun S=>amV ?_;show ∃i',_∧_;exact⟨(k+1),⟨by omega,(nY lg kF hR (by rw[vF,hx27]; exact Tz hc31)),S.sn⟩,by show _-_<_-_; omega⟩
 refine anB<|iQ _ _<|amW fun _ mF=>adr S 1 [] [(4,.bool true)] fun S=>amV<|mF _ _<|amZ S results140 ?_;exact⟨aB (uP (by have:=anE bM; omega) (jh hc4) hR),S.E⟩
theorem X4{w:World}{v u:Value}{l m:List Int}(h:aN 1 (fun x=>[zG x]) w v l)(h':aN 1 (fun x=>[zG x]) w u m) :
  Calls prog 139 #[v,u] w fun e w'=>e = .returned (.bool (l=m))∧Ext w w':=by
 obtain⟨a,cap,rfl⟩:=h.shape;obtain⟨d,cap',rfl⟩:=h'.shape;have hmax:l.length≤9223372036854775807:=h.len;refine am0 func139 ntmps139 fun ac S=>amW fun _ aO=>adr S 1 [] [(4,.bool false)] fun S=>amV<|aO _ _<|anj fun _ eG=>amW fun _ gY=>adr S 5 [] [(10,.bool (((l.length:Int)) != (m.length:Int)))] fun S=>amV (gY _ _ ?_);refine amX S (fun hc4=>?_) (fun hc4=>?_)
 ·refine amW fun _ dA=>adr S 1 [] [(4,.bool false)] fun S=>amV<|dA _ _<|amZ S results139 ?_;exact⟨aB (nX hc4),S.E⟩
 refine ano<|eG _ _<|anj fun _ iQ=>amW fun _ jB=>adr S 3 [] [(12,.i l.length),(13,.i 0)] fun S=>amV<|jB _ _<|anp ?_;refine anP (ι:=Nat) (fun p a' w'=>p≤l.length∧(l.take p=m.take p)∧Sx.St w a' w' 26 [(0,.slice a l.length cap),(1,.slice d m.length cap'),(4,.bool false),(12,.i l.length),(13,.i p)] [] []) (fun p=>l.length-p) (0) ⟨anz _,rfl,S.sn⟩ ?_;rintro k ac u hI;try dsimp only at hI
 obtain⟨hk,hR,S⟩:=hI;refine amW fun _ dJ=>adr S 1 [] [(14,.bool ((k:Int)<(l.length:Int)))] fun S=>amV<|dJ _ _<|anj (fun _ gZ=>?_);refine amX S (fun bM=>?_) (fun bM=>?_)
 ·refine ano<|gZ _ _<|anj fun _ bW=>anp<|amW fun _ cZ=>adr S 2 [] [(5,.i k)] fun S=>amV<|cZ _ _<|anj (fun _ gJ=>?_);have lg:k<l.length:=by have:=anC bM; omega
  obtain⟨b15,o16,rfl,x21,vF,Du,Dv⟩:=anF h (fun _=>rfl) (k) lg;have S:=S.view0 Du Dv;have kF:k<m.length:=by have:=jh hc4; have:=anC bM; omega
  obtain⟨b23,o24,rfl,y29,hx27,zJ,Aw⟩:=anF h' (fun _=>rfl) (k) kF;have S:=S.view0 zJ Aw;refine am6 S 9 [.idx k l.length,.mem 1 0,.idx k m.length,.mem 0 0] [] [(24,.bool ((x21) != y29))] trivial (hk:=⟨lg,kF,trivial⟩) fun ac u Dj S=>amV (gJ _ _ ?_);refine amX S (fun hc31=>?_) (fun hc31=>?_)
  ·refine amW fun _ jF=>adr S 1 [] [(4,.bool false)] fun S=>amV<|jF _ _<|amZ S results139 ?_;exact⟨aB (uO lg kF (fun e=>by have hq:=hc31; rw[vF,hx27]at e; subst e; simp at hq)),S.E⟩
  refine ano<|bW _ _<|ant<|adr S 2 [.re 25 (.i (IntKind.i64.wrap ((k:Int)+1))) (.i (k+1:Nat))] [(13,.i (k+1:Nat))] (hk:=⟨am8 (by omega),trivial⟩) fun S=>amV ?_;show ∃i',_∧_;exact⟨(k+1),⟨by omega,(nY lg kF hR (by rw[vF,hx27]; exact aaH hc31)),S.sn⟩,by show _-_<_-_; omega⟩
 refine anB<|iQ _ _<|amW fun _ mF=>adr S 1 [] [(4,.bool true)] fun S=>amV<|mF _ _<|amZ S results139 ?_;exact⟨aB (uP (by have:=anE bM; omega) (jh hc4) hR),S.E⟩
open Go.RowKit
variable{α:Type}
theorem Ya(p:dO):(((min (p.r.toNat:Int) (p.a.toNat:Int))==(p.r.toNat:Int))&&(((min (p.g.toNat:Int) (p.a.toNat:Int))==(p.g.toNat:Int))&&(((min (p.b.toNat:Int) (p.a.toNat:Int))==(p.b.toNat:Int))&&((min (p.a.toNat:Int) (p.a.toNat:Int))==(p.a.toNat:Int)))))=p.valid:=by
 have h:∀x y:UInt8,((min (x.toNat:Int) (y.toNat:Int))==(x.toNat:Int))=decide (x≤y):=by
  intro x y; rw[aop]; simp only[anO,anT,UInt8.le_iff_toNat_le]; omega
 rw[h,h,h,h]; unfold dO.valid; simp
theorem og{l:List α}{k:Nat}{p:α→Bool}(hk:l.length≤k)(h:(l.take k).all p=true):l.all p=true:=by rwa [anW hk]at h
theorem wV{l:List α}{k:Nat}{p:α→Bool}(hk:k<l.length)(h:p l[k]=false):l.all p=false:=by
 rw[List.all_eq_false]; exact⟨l[k],anJ hk,by simp[h]⟩
theorem kK{l:List α}{k:Nat}{p:α→Bool}(hk:k<l.length)(hR:(l.take k).all p=true)(h:p l[k]=true):(l.take (k+1)).all p=true:=by
 rw[an2 hk,List.all_append,hR]; simp[h]
theorem DC{a b:Int}(ha:side a=true)(hb:side b=true):IntKind.i64.wrap (a*b)=a*b:=by
 simp only[side,anM,anT]at ha hb;have h1:a*b≤4096*4096:=Int.le_trans (Int.mul_le_mul_of_nonneg_right ha.2 (by omega)) (Int.mul_le_mul_of_nonneg_left hb.2 (by omega));have h0:0≤a*b:=Int.mul_nonneg (by omega) (by omega);rw[aoW]; omega
theorem O8{m:cO}:((((!(side m.w))||(!(side m.h)))||(decide (65536<IntKind.i64.wrap (m.w*m.h))))||((m.l.length:Int) != IntKind.i64.wrap (m.w*m.h)))=((((!(side m.w))||(!(side m.h)))||(decide (65536<(m.w*m.h))))||((m.l.length:Int) != (m.w*m.h))):=by
 cases ha:side m.w<;>cases hb:side m.h<;>simp only[Bool.not_false,Bool.not_true,Bool.true_or,apM,Bool.or_true];rw[DC ha hb]
theorem afS{m:cO}(h:((((!(side m.w))||(!(side m.h)))||(decide (65536<(m.w*m.h))))||((m.l.length:Int) != (m.w*m.h)))=true):false=m.valid:=by
 unfold cO.valid cO.size;revert h;cases side m.w<;>cases side m.h<;>simp;intro h h1 h2; omega
theorem adI{m:cO}(h:((((!(side m.w))||(!(side m.h)))||(decide (65536<(m.w*m.h))))||((m.l.length:Int) != (m.w*m.h)))=false):(!(!(m.l.all dO.valid)))=m.valid:=by
 unfold cO.valid cO.size;revert h;cases side m.w<;>cases side m.h<;>simp;intro h h1; rw[h1]; simp[h]
theorem afT{m n:cO}:((m.w==n.w)&&(m.h==n.h)&&decide (m.l=n.l))=m.eq n:=by
 unfold cO.eq;rw[apz];by_cases h:m.l=n.l<;>simp[h]
theorem Yb{l:List gu}(h:((decide ((l.length:Int)<1))||(decide (16<(l.length:Int))))=true):false=fC l:=by
 unfold fC;simp only[ao5,anT]at h;rcases h with h | h
 ·rw[aow (by omega)]; rfl
 rw[aow (p:=l.length≤16) (by omega)]; simp
theorem O9{l:List gu}(h:((decide ((l.length:Int)<1))||(decide (16<(l.length:Int))))=false):fC l=dw 0 l:=by
 unfold fC;simp only[aom,aoC]at h;rw[aoi (p:=1≤l.length) (by omega),aoi (p:=l.length≤16) (by omega)]; rfl
theorem Yc{l:List gu}{k:Nat}{last:Int}(h:((decide ((l.length:Int)<1))||(decide (16<(l.length:Int))))=false)(hk:l.length≤k)(hR:dw 0 l=dw last (l.drop k)):true=fC l:=by
 rw[O9 h,hR,aon hk]; rfl
theorem Yd{l:List gu}{k:Nat}{last:Int}(h:((decide ((l.length:Int)<1))||(decide (16<(l.length:Int))))=false)(hk:k<l.length)(hR:dw 0 l=dw last (l.drop k))(hb:((decide (l[k].o<last))||(decide (65536<l[k].o)))=true):false=fC l:=by
 rw[O9 h,hR,aoo hk,dw];simp only[ao5,anT]at hb;rcases hb with hb | hb
 ·rw[aow (by omega)]; rfl
 rw[aow (p:=l[k].o≤65536) (by omega)]; simp
theorem TJ{l:List gu}{k:Nat}{last:Int}(hk:k<l.length)(hR:dw 0 l=dw last (l.drop k))(hb:((decide (l[k].o<last))||(decide (65536<l[k].o)))=false):dw 0 l=dw l[k].o (l.drop (k+1)):=by
 rw[hR,aoo hk,dw];simp only[aom,aoC]at hb;rw[aoi (p:=last≤l[k].o) (by omega),aoi (p:=l[k].o≤65536) (by omega)]; rfl
theorem wW{w:World}{b:Nat}(p:dO)(x:Int)(hx:Bx w b #[.int .u8 (p.r.toNat:Int),.int .u8 (p.g.toNat:Int),.int .u8 (p.b.toNat:Int),.int .u8 (p.a.toNat:Int)]) :
  Calls prog 231 #[.int .u8 x,.pointer (some ⟨b,0,none⟩)] w fun e w'=>e = .returned (.int .u8 (min x (p.a.toNat:Int)))∧w=w':=by
 skip;refine am0 func231 ntmps231 (fun ac S=>?_);have S:=S.view0 hx.1 (hx.range 0 4 rfl);refine amW fun _ aO=>adr S 1 [] [(3,.int .u8 0)] fun S=>amV<|aO _ _<|amW fun _ eG=>adr S 5 [.mem 0 3,.re 7 (.int .u8 (if (p.a.toNat:Int)<x then (p.a.toNat:Int)else x)) (.int .u8 (min x (p.a.toNat:Int)))] [(3,.int .u8 (min x (p.a.toNat:Int)))] (hk:=⟨Sx.Az,trivial⟩) fun S=>amV<|eG _ _<|amZ S results231 ?_;exact⟨rfl,rfl⟩
theorem aaT{w:World}{b:Nat}(p:dO)(hx:Bx w b #[.int .u8 (p.r.toNat:Int),.int .u8 (p.g.toNat:Int),.int .u8 (p.b.toNat:Int),.int .u8 (p.a.toNat:Int)]) :
  Calls prog 230 #[.agg #[.int .u8 (p.r.toNat:Int),.int .u8 (p.g.toNat:Int),.int .u8 (p.b.toNat:Int),.int .u8 (p.a.toNat:Int)],.func (.func 231) #[] #[.pointer (some ⟨b,0,none⟩)]] w fun e w'=>e = .returned (.agg #[.int .u8 (min (p.r.toNat:Int) (p.a.toNat:Int)),.int .u8 (min (p.g.toNat:Int) (p.a.toNat:Int)),.int .u8 (min (p.b.toNat:Int) (p.a.toNat:Int)),.int .u8 (min (p.a.toNat:Int) (p.a.toNat:Int))])∧Ext w w':=by
 skip;refine am0 func230 ntmps230 (fun ac S=>?_);have S:=S.view0 hx.1 (hx.range 0 4 rfl);refine amW fun _ aO=>amY S 2 p.cells fun ac u b2 E3 hb4 S=>amY S 4 [.int .u8 0,.int .u8 0,.int .u8 0,.int .u8 0] fun ac u b5 E6 hb7 S=>amV<|aO _ _<|anj fun _ dJ=>am6 S 17 [.mem 1 0,.mem 1 1,.mem 1 2,.mem 1 3] [(_,_,true,.int .u8 (min (p.r.toNat:Int) (p.a.toNat:Int))),(_,_,true,.int .u8 (min (p.g.toNat:Int) (p.a.toNat:Int))),(_,_,true,.int .u8 (min (p.b.toNat:Int) (p.a.toNat:Int))),(_,_,true,.int .u8 (min (p.a.toNat:Int) (p.a.toNat:Int)))] [(21,.agg #[.int .u8 (min (p.r.toNat:Int) (p.a.toNat:Int)),.int .u8 (min (p.g.toNat:Int) (p.a.toNat:Int)),.int .u8 (min (p.b.toNat:Int) (p.a.toNat:Int)),.int .u8 (min (p.a.toNat:Int) (p.a.toNat:Int))])] ⟨fun u hC g=>anc (wW p (p.r.toNat:Int) (hx.ext (Ext.trans' S.E hC))),fun u hC g=>anc (wW p (p.g.toNat:Int) (hx.ext (Ext.trans' S.E hC))),fun u hC g=>anc (wW p (p.b.toNat:Int) (hx.ext (Ext.trans' S.E hC))),fun u hC g=>anc (wW p (p.a.toNat:Int) (hx.ext (Ext.trans' S.E hC))),trivial⟩ fun ac u E9 S=>am1 S 0 (off:=0) (cs:=[.int .u8 (min (p.r.toNat:Int) (p.a.toNat:Int)),.int .u8 (min (p.g.toNat:Int) (p.a.toNat:Int)),.int .u8 (min (p.b.toNat:Int) (p.a.toNat:Int)),.int .u8 (min (p.a.toNat:Int) (p.a.toNat:Int))]) rfl fun u C10 S=>amV<|dJ _ _<|ana S 0 results230 rfl (v := .agg #[.int .u8 (min (p.r.toNat:Int) (p.a.toNat:Int)),.int .u8 (min (p.g.toNat:Int) (p.a.toNat:Int)),.int .u8 (min (p.b.toNat:Int) (p.a.toNat:Int)),.int .u8 (min (p.a.toNat:Int) (p.a.toNat:Int))]) ?_;exact⟨rfl,S.E⟩
theorem TK(p:dO)(w:World) :
  Calls prog 201 #[.agg #[.int .u8 (p.r.toNat:Int),.int .u8 (p.g.toNat:Int),.int .u8 (p.b.toNat:Int),.int .u8 (p.a.toNat:Int)]] w fun e w'=>e = .returned (.agg #[.int .u8 (min (p.r.toNat:Int) (p.a.toNat:Int)),.int .u8 (min (p.g.toNat:Int) (p.a.toNat:Int)),.int .u8 (min (p.b.toNat:Int) (p.a.toNat:Int)),.int .u8 (min (p.a.toNat:Int) (p.a.toNat:Int))])∧Ext w w':=by
 skip;refine am0 func201 ntmps201 fun ac S=>amW fun _ aO=>amY S 1 p.cells fun ac u b2 E3 hb4 S=>amY S 2 [.int .u8 0,.int .u8 0,.int .u8 0,.int .u8 0] fun ac u b5 E6 hb7 S=>amV<|aO _ _<|amW fun _ dJ=>adr S 2 [.mem 1 0] [(3,.agg p.cells.toArray),(4,.func (.func 231) #[] #[.pointer (some ⟨b2,0,none⟩)])] fun S=>am3 S 5 (aaT p (S.bx 1)) fun ac u E9 S=>am1 S 0 (off:=0) (cs:=[.int .u8 (min (p.r.toNat:Int) (p.a.toNat:Int)),.int .u8 (min (p.g.toNat:Int) (p.a.toNat:Int)),.int .u8 (min (p.b.toNat:Int) (p.a.toNat:Int)),.int .u8 (min (p.a.toNat:Int) (p.a.toNat:Int))]) rfl fun u C10 S=>amV<|dJ _ _<|ana S 0 results201 rfl (v := .agg #[.int .u8 (min (p.r.toNat:Int) (p.a.toNat:Int)),.int .u8 (min (p.g.toNat:Int) (p.a.toNat:Int)),.int .u8 (min (p.b.toNat:Int) (p.a.toNat:Int)),.int .u8 (min (p.a.toNat:Int) (p.a.toNat:Int))]) ?_;exact⟨rfl,S.E⟩
theorem MJ(p:dO)(w:World) :
  Calls prog 160 #[.agg #[.int .u8 (p.r.toNat:Int),.int .u8 (p.g.toNat:Int),.int .u8 (p.b.toNat:Int),.int .u8 (p.a.toNat:Int)]] w fun e w'=>e = .returned (.bool p.valid)∧Ext w w':=by
 skip;refine am0 func160 ntmps160 fun ac S=>amW fun _ aO=>amY S 1 p.cells fun ac u b2 E3 hb4 S=>adr S 1 [] [(2,.bool false)] fun S=>amV<|aO _ _<|anj fun _ dA=>am6 S 4 [.mem 0 0,.mem 0 0,.cmp .eql 122 (.tmp 4) (.tmp 5) (.agg #[.int .u8 (min (p.r.toNat:Int) (p.a.toNat:Int)),.int .u8 (min (p.g.toNat:Int) (p.a.toNat:Int)),.int .u8 (min (p.b.toNat:Int) (p.a.toNat:Int)),.int .u8 (min (p.a.toNat:Int) (p.a.toNat:Int))]) (.agg #[.int .u8 (p.r.toNat:Int),.int .u8 (p.g.toNat:Int),.int .u8 (p.b.toNat:Int),.int .u8 (p.a.toNat:Int)]) (.bool (((min (p.r.toNat:Int) (p.a.toNat:Int))==(p.r.toNat:Int))&&(((min (p.g.toNat:Int) (p.a.toNat:Int))==(p.g.toNat:Int))&&(((min (p.b.toNat:Int) (p.a.toNat:Int))==(p.b.toNat:Int))&&((min (p.a.toNat:Int) (p.a.toNat:Int))==(p.a.toNat:Int))))))] [(_,_,true,.agg #[.int .u8 (min (p.r.toNat:Int) (p.a.toNat:Int)),.int .u8 (min (p.g.toNat:Int) (p.a.toNat:Int)),.int .u8 (min (p.b.toNat:Int) (p.a.toNat:Int)),.int .u8 (min (p.a.toNat:Int) (p.a.toNat:Int))])] [(6,.bool (((min (p.r.toNat:Int) (p.a.toNat:Int))==(p.r.toNat:Int))&&(((min (p.g.toNat:Int) (p.a.toNat:Int))==(p.g.toNat:Int))&&(((min (p.b.toNat:Int) (p.a.toNat:Int))==(p.b.toNat:Int))&&((min (p.a.toNat:Int) (p.a.toNat:Int))==(p.a.toNat:Int))))))] ⟨fun u hC g=>TK p _,trivial⟩ (hk:=⟨ang (fun _=>ahr ..) (by kernel_rfl),trivial⟩) fun ac u E6 S=>adr S 1 [] [(2,.bool (((min (p.r.toNat:Int) (p.a.toNat:Int))==(p.r.toNat:Int))&&(((min (p.g.toNat:Int) (p.a.toNat:Int))==(p.g.toNat:Int))&&(((min (p.b.toNat:Int) (p.a.toNat:Int))==(p.b.toNat:Int))&&((min (p.a.toNat:Int) (p.a.toNat:Int))==(p.a.toNat:Int))))))] fun S=>amV<|dA _ _<|amZ S results160 ?_;exact⟨aB (Ya p),S.E⟩
theorem TL(p:dO)(w:World) :
  Calls prog 159 #[.agg #[.int .u8 (p.r.toNat:Int),.int .u8 (p.g.toNat:Int),.int .u8 (p.b.toNat:Int),.int .u8 (p.a.toNat:Int)]] w fun e w'=>e = .returned (.bool (!p.valid))∧Ext w w':=by
 skip;refine am0 func159 ntmps159 fun ac S=>amW fun _ aO=>amY S 1 p.cells fun ac u b2 E3 hb4 S=>adr S 1 [] [(2,.bool false)] fun S=>amV<|aO _ _<|amW fun _ dA=>adr S 1 [.mem 0 0] [(3,.agg p.cells.toArray)] fun S=>am3 S 4 (MJ p _) fun ac u E6 S=>adr S 2 [] [(2,.bool (!p.valid))] fun S=>amV<|dA _ _<|amZ S results159 ?_;exact⟨rfl,S.E⟩
theorem MK{w:World}{v:Value}{l:List dO}(h:aN 4 dO.cells w v l) :
  Calls prog 200 #[v,.func (.func 159) #[] #[]] w fun e w'=>∃z,e = .returned (.i z)∧decide (0≤z) = !(l.all dO.valid)∧Ext w w':=by
 obtain⟨a,cap,rfl⟩:=h.shape;have hmax:l.length≤9223372036854775807:=h.len;refine am0 func200 ntmps200 fun ac S=>amW fun _ aO=>adr S 1 [] [(4,.i 0)] fun S=>amV<|aO _ _<|anj fun _ eG=>amW fun _ gY=>adr S 3 [] [(7,.i l.length),(8,.i 0)] fun S=>amV<|gY _ _<|anp ?_;refine anP (ι:=Nat) (fun p a' w'=>p≤l.length∧((l.take p).all dO.valid=true)∧Sx.St w a' w' 19 [(0,.slice a l.length cap),(1,.func (.func 159) #[] #[]),(4,.i 0),(7,.i l.length),(8,.i p)] [] []) (fun p=>l.length-p) (0) ⟨anz _,rfl,S.sn⟩ ?_;rintro k ac u hI;try dsimp only at hI
 obtain⟨hk,hR,S⟩:=hI;refine amW fun _ lQ=>adr S 1 [] [(9,.bool ((k:Int)<(l.length:Int)))] fun S=>amV<|lQ _ _<|anj (fun _ dA=>?_);refine amX S (fun hc6=>?_) (fun hc6=>?_)
 ·refine ano<|dA _ _<|anj fun _ jB=>anp<|amW fun _ dJ=>adr S 2 [] [(5,.i k)] fun S=>amV<|dJ _ _<|amW (fun _ gZ=>?_);have rG:k<l.length:=by have:=anC hc6; omega
  obtain⟨b10,o11,rfl,x16,yA,JA,ML⟩:=anF h (fun _=>rfl) (k) rG;have S:=S.view0 JA ML;refine adr S 5 [.idx k l.length,.mem 0 0] [(11,.func (.func 159) #[] #[]),(15,.agg x16.cells.toArray)] (hk:=⟨rG,trivial⟩) fun S=>am3 S 16 (TL x16 _) fun ac u Dy S=>amV (gZ _ _ ?_);refine amX S (fun hc19=>?_) (fun hc19=>?_)
  ·refine amW fun _ jo=>adr S 2 [] [(4,.i k)] fun S=>amV<|jo _ _<|amZ S results200 ?_;exact⟨_,rfl,by rw[wV rG (by rw[yA]; simpa using hc19)]; simp,S.E⟩
  refine ano<|jB _ _<|ant<|adr S 2 [.re 18 (.i (IntKind.i64.wrap ((k:Int)+1))) (.i (k+1:Nat))] [(8,.i (k+1:Nat))] (hk:=⟨am8 (by omega),trivial⟩) fun S=>amV ?_;show ∃i',_∧_;exact⟨(k+1),⟨by omega,(kK rG hR (by rw[yA]; simpa using hc19)),S.sn⟩,by show _-_<_-_; omega⟩
 refine anB<|eG _ _<|amW fun _ jT=>adr S 1 [] [(4,.i (-1))] fun S=>amV<|jT _ _<|amZ S results200 ?_;exact⟨_,rfl,by rw[og (by have:=anE hc6; omega) hR]; rfl,S.E⟩
theorem Pg{w:World}{v:Value}{l:List dO}(h:aN 4 dO.cells w v l) :
  Calls prog 158 #[v,.func (.func 159) #[] #[]] w fun e w'=>e = .returned (.bool (!(l.all dO.valid)))∧Ext w w':=by
 skip;refine am0 func158 ntmps158 fun ac S=>amW fun _ aO=>adr S 1 [] [(4,.bool false)] fun S=>amV<|aO _ _<|amW fun _ eG=>adr S 2 [] [(5,v),(6,.func (.func 159) #[] #[])] fun S=>am4 S (some 7) (MK (h.below S.E)) ?_;rintro e u ⟨z,rfl,hz,E3⟩;refine⟨_,rfl,E3,fun ac S=>?_⟩;refine adr S 2 [] [(4,.bool (0≤z))] fun S=>amV<|eG _ _<|amZ S results158 ?_;exact⟨aB hz,S.E⟩
theorem Ph(n:Int)(w:World) :
  Calls prog 157 #[.i n] w fun e w'=>e = .returned (.bool (side n))∧w=w':=by
 skip;refine am0 func157 ntmps157 fun ac S=>amW fun _ aO=>adr S 1 [] [(2,.bool false)] fun S=>amV<|aO _ _<|amW fun _ eG=>adr S 7 [] [(2,.bool ((decide (1≤n))&&(decide (n≤4096))))] fun S=>amV<|eG _ _<|amZ S results157 ?_;exact⟨rfl,rfl⟩
theorem BP{w:World}{m:cO}(h:m.ok w) :
  Calls prog 121 #[m.v] w fun e w'=>e = .returned (.bool m.valid)∧Ext w w':=by
 obtain⟨a,cap,hs⟩:=h.2.2.shape;unfold cO.v;have hq:=h.2.2;rw[hs];rw[hs]at hq;refine am0 func121 ntmps121 fun ac S=>amW fun _ aO=>amY S 1 [.i m.w,.i m.h,.slice a m.l.length cap] fun ac u b2 E3 hb4 S=>adr S 1 [] [(2,.bool false)] fun S=>amV<|aO _ _<|amW fun _ dA=>adr S 1 [] [(3,.func (.func 157) #[] #[])] fun S=>amV<|dA _ _<|anj fun _ iQ=>amW fun _ jB=>adr S 3 [.mem 0 0] [(4,.func (.func 157) #[] #[]),(6,.i m.w)] fun S=>anl S 7 (Ph m.w _) fun ac S=>am9 S 27 [.mem 0 1,.mem 0 0,.mem 0 1,.mem 0 2,.mem 0 0,.mem 0 1] [(_,_,(!(!(side m.w))),.bool (side m.h))] [(34,.bool ((((!(side m.w))||(!(side m.h)))||(decide (65536<(IntKind.i64.wrap (m.w*m.h)))))||(((m.l.length:Int)) != (IntKind.i64.wrap (m.w*m.h)))))] ⟨fun u hC g=>anc (Ph m.h _),trivial⟩ fun ac u E8 S=>amV (jB _ _ ?_);refine amX S (fun ZJ=>?_) (fun ZJ=>?_)
 ·refine amW fun _ fE=>adr S 1 [] [(2,.bool false)] fun S=>amV<|fE _ _<|amZ S results121 ?_;exact⟨aB (afS (O8▸ZJ)),S.E⟩
 refine ano<|iQ _ _<|amW fun _ bW=>adr S 2 [.mem 0 2] [(36,.slice a m.l.length cap)] fun S=>am3 S 37 (Pg (hq.below S.E)) fun ac u Ed S=>adr S 2 [] [(2,.bool (!(!(m.l.all dO.valid))))] fun S=>amV<|bW _ _<|amZ S results121 ?_;exact⟨aB (adI (O8▸ZJ)),S.E⟩
theorem wX{w:World}{m n:cO}(h:m.ok w)(h':n.ok w) :
  Calls prog 97 #[m.v,n.v] w fun e w'=>e = .returned (.bool (m.eq n))∧Ext w w':=by
 skip;refine am0 func97 ntmps97 fun ac S=>amW fun _ aO=>amY S 2 m.cells fun ac u b2 E3 hb4 S=>amY S 3 n.cells fun ac u b5 E6 hb7 S=>adr S 1 [] [(4,.bool false)] fun S=>amV<|aO _ _<|amW fun _ dJ=>am9 S 20 [.mem 1 0,.mem 0 0,.mem 1 1,.mem 0 1,.mem 1 2,.mem 0 2] [(_,_,(((m.w)==n.w)&&((m.h)==n.h)),.bool (m.l=n.l))] [(4,.bool ((((m.w)==n.w)&&((m.h)==n.h))&&(decide (m.l=n.l))))] ⟨fun u hC g=>X3 (h.2.2.below (Ext.trans' S.E hC)) (h'.2.2.below (Ext.trans' S.E hC)),trivial⟩ fun ac u E9 S=>amV<|dJ _ _<|amZ S results97 ?_;exact⟨aB afT,S.E⟩
theorem JB{w:World}{v:Value}{l:List gu}(h:aN 5 gu.cells w v l) :
  Calls prog 251 #[v] w fun e w'=>e = .returned (.bool (fC l))∧Ext w w':=by
 obtain⟨a,cap,rfl⟩:=h.shape;have hmax:l.length≤9223372036854775807:=h.len;refine am0 func251 ntmps251 fun ac S=>amW fun _ aO=>adr S 1 [] [(2,.bool false)] fun S=>amV<|aO _ _<|anj fun _ eG=>amW fun _ gY=>adr S 8 [] [(13,.bool ((decide ((l.length:Int)<1))||(decide (16<(l.length:Int)))))] fun S=>amV (gY _ _ ?_);refine amX S (fun hc4=>?_) (fun hc4=>?_)
 ·refine amW fun _ dA=>adr S 1 [] [(2,.bool false)] fun S=>amV<|dA _ _<|amZ S results251 ?_;exact⟨aB (Yb hc4),S.E⟩
 refine ano<|eG _ _<|amW fun _ iQ=>adr S 1 [] [(3,.i 0)] fun S=>amV<|iQ _ _<|anj fun _ jB=>amW fun _ dJ=>adr S 3 [] [(14,.slice a l.length cap),(15,.i l.length),(16,.i 0)] fun S=>amV<|dJ _ _<|anp ?_;refine anP (ι:=Nat×Int) (fun p a' w'=>p.1≤l.length∧(dw 0 l=dw p.2 (l.drop p.1))∧Sx.St w a' w' 32 [(0,.slice a l.length cap),(2,.bool false),(3,.i p.2),(14,.slice a l.length cap),(15,.i l.length),(16,.i p.1)] [] []) (fun p=>l.length-p.1) (0,0) ⟨anz _,rfl,S.sn⟩ ?_;rintro⟨k,last⟩ ac u hI;try dsimp only at hI
 obtain⟨hk,hR,S⟩:=hI;refine amW fun _ gZ=>adr S 1 [] [(17,.bool ((k:Int)<(l.length:Int)))] fun S=>amV<|gZ _ _<|anj (fun _ fE=>?_);refine amX S (fun iq=>?_) (fun iq=>?_)
 ·refine ano<|fE _ _<|anj fun _ cZ=>anp<|amW (fun _ gJ=>?_);have jk:k<l.length:=by have:=anC iq; omega
  obtain⟨b14,o15,rfl,x20,mY,wS,yu⟩:=anF h (fun _=>rfl) (k) jk;have S:=S.view0 wS yu;refine adr S 2 [.idx k l.length,.mem 0 0] [(19,.agg x20.cells.toArray)] (hk:=⟨jk,trivial⟩) fun S=>amY S 5 [.i 0,.int .u8 0,.int .u8 0,.int .u8 0,.int .u8 0] fun ac u b22 JX Gm S=>am1 S 0 (off:=0) (cs:=x20.cells) rfl fun u C25 S=>amV<|gJ _ _<|anj fun _ kQ=>amW fun _ kY=>adr S 9 [.mem 0 0,.mem 0 0] [(28,.bool ((decide (x20.o<last))||(decide (65536<x20.o))))] fun S=>amV (kY _ _ ?_);refine amX S (fun hc28=>?_) (fun hc28=>?_)
  ·refine amW fun _ qm=>adr S 1 [] [(2,.bool false)] fun S=>amV<|qm _ _<|amZ S results251 ?_;exact⟨aB (Yd hc4 jk hR (by rw[mY]; exact hc28)),S.E⟩
  refine ano<|kQ _ _<|ant<|adr S 3 [.mem 0 0] [(3,.i x20.o)] fun S=>amV<|cZ _ _<|ant<|adr S 2 [.re 31 (.i (IntKind.i64.wrap ((k:Int)+1))) (.i (k+1:Nat))] [(16,.i (k+1:Nat))] (hk:=⟨am8 (by omega),trivial⟩) fun S=>amV ?_;show ∃i',_∧_;exact⟨((k+1),x20.o),⟨by omega,(by rw[←mY]; exact TJ jk hR (by rw[mY]; exact hc28)),(S.sub [(0,.slice (some ⟨b14,o15,none⟩) l.length cap),(2,.bool false),(3,.i x20.o),(14,.slice (some ⟨b14,o15,none⟩) l.length cap),(15,.i l.length),(16,.i (k+1:Nat))]).rU.lu 1⟩,by show _-_<_-_; omega⟩
 refine anB<|jB _ _<|amW fun _ mM=>adr S 1 [] [(2,.bool true)] fun S=>amV<|mM _ _<|amZ S results251 ?_;exact⟨aB (Yc hc4 (by have:=anE iq; omega) hR),S.E⟩
theorem aaU(n:Int)(w:World) :
  Calls prog 119 #[.i n] w fun e w'=>e = .returned (.bool (decide (1≤n)&&decide (n≤13)))∧w=w':=by
 skip;refine am0 func119 ntmps119 fun ac S=>amW fun _ aO=>adr S 1 [] [(2,.bool false)] fun S=>amV<|aO _ _<|amW fun _ eG=>adr S 7 [] [(2,.bool ((decide (1≤n))&&(decide (n≤13))))] fun S=>amV<|eG _ _<|amZ S results119 ?_;exact⟨rfl,rfl⟩
theorem Gv(n:Int)(w:World) :
  Calls prog 229 #[.i n] w fun e w'=>e = .returned (.bool (jf n))∧w=w':=by
 skip;refine am0 func229 ntmps229 fun ac S=>amW fun _ aO=>adr S 1 [] [(2,.bool false)] fun S=>amV<|aO _ _<|amW fun _ eG=>adr S 7 [] [(2,.bool ((decide (1≤n))&&(decide (n≤3))))] fun S=>amV<|eG _ _<|amZ S results229 ?_;exact⟨rfl,rfl⟩
theorem aaV(n:Int)(w:World) :
  Calls prog 195 #[.i n] w fun e w'=>e = .returned (.bool (decide (1≤n)&&decide (n≤16384)))∧w=w':=by
 skip;refine am0 func195 ntmps195 fun ac S=>amW fun _ aO=>adr S 1 [] [(2,.bool false)] fun S=>amV<|aO _ _<|amW fun _ eG=>adr S 7 [] [(2,.bool ((decide (1≤n))&&(decide (n≤16384))))] fun S=>amV<|eG _ _<|amZ S results195 ?_;exact⟨rfl,rfl⟩
open Go.RowKit
variable{α:Type}
def pF(l s:List Int):Option Bool:=if s.all (fun x=>decide (0≤x)&&decide (x≤1048576))then some (((l.length:Int)==0)||s.any (fun x=>decide (0<x)))else none
def nN(l:List Int):Bool:=l.all (fun x=>decide (0≤x)&&decide (x≤1048576))&&((((((l.length:Int)==0)||l.any (fun x=>decide (0<x)))&&((Int.tmod (l.length:Int) 2)==0))&&(decide ((l.length:Int)≤16))))
theorem Kr(l:List Int):pF l (l.take 0)=some ((l.length:Int)==0):=by simp[pF]
theorem Kt{l:List Int}{k:Nat}{any:Bool}(hk:k<l.length)(hR:pF l (l.take k)=some any)(hb:((decide (l[k]<0))||(decide (1048576<l[k])))=false):pF l (l.take (k+1))=some (any||(decide (0<l[k]))):=by
 unfold pF at hR ⊢;rw[an2 hk,List.all_append,List.any_append];simp only[aom,aoC]at hb;split at hR
 ·rename_i h;obtain rfl:=anG hR;rw[h];simp[show 0≤l[k] by omega,show l[k]≤1048576 by omega,Bool.or_assoc]
 cases hR
theorem Pj{l:List Int}{k:Nat}{any:Bool}(hk:k<l.length)(hR:pF l (l.take k)=some any)(hb:((decide (l[k]<0))||(decide (1048576<l[k])))=true):false=nN l:=by
 simp only[ao5,anT]at hb;unfold nN;rw[wV hk (by simp; omega)]; rfl
theorem Pm{l:List Int}{k:Nat}{any:Bool}(hk:l.length≤k)(hR:pF l (l.take k)=some any):((any&&((Int.tmod (l.length:Int) 2)==0))&&(decide ((l.length:Int)≤16)))=nN l:=by
 unfold pF at hR;rw[anW hk]at hR;split at hR
 ·rename_i h;obtain rfl:=anG hR;unfold nN;rw[h]; rfl
 cases hR
def dI(b:Bool)(n:Int):Value:=if b=true then .iface 111 (.agg #[.i n,.nilIface])else .nilIface
theorem Ye{b:Bool}{n:Int}{x:Operand}:∀w,(do eqGuard .neq 108 x (.const .nilIface) (dI b n) .nilIface; binOp .neq 108 (dI b n) .nilIface:Sem Value).run prog w = .ok (.bool (!(!b))) w:=fun w=>by
 cases b<;>simp[dI,go_sem]
def kS:List (Bool×Int)→Value
 | [] => .nilIface
 | p::l=>if p.1=true then .iface 111 (.agg #[.i 0,.iface 111 (.agg #[.i p.2,.nilIface])])else kS l
theorem TM{w:World}{v:Value}{l:List Int}(h:fA zG w v l) :
  Calls prog 196 #[v] w fun e w'=>e = .returned (.bool (nN l))∧Ext w w':=by
 obtain⟨a,cap,rfl⟩:=(dW h).shape;have hmax:l.length≤9223372036854775807:=(dW h).len;refine am0 func196 ntmps196 fun ac S=>amW fun _ aO=>adr S 1 [] [(2,.bool false)] fun S=>amV<|aO _ _<|amW fun _ eG=>adr S 4 [] [(3,.bool (((l.length:Int))==0))] fun S=>amV<|eG _ _<|anj fun _ gY=>amW fun _ lQ=>adr S 3 [] [(9,.slice a l.length cap),(10,.i l.length),(11,.i 0)] fun S=>amV<|lQ _ _<|anp ?_;refine anP (ι:=Nat×Bool) (fun p a' w'=>p.1≤l.length∧(pF l (l.take p.1)=some p.2)∧Sx.St w a' w' 39 [(0,.slice a l.length cap),(2,.bool false),(3,.bool p.2),(9,.slice a l.length cap),(10,.i l.length),(11,.i p.1)] [] []) (fun p=>l.length-p.1) (0,((l.length:Int)==0)) ⟨anz _,Kr l,S.sn⟩ ?_;rintro⟨k,any⟩ ac u hI;try dsimp only at hI
 obtain⟨hk,hR,S⟩:=hI;refine amW fun _ dA=>adr S 1 [] [(12,.bool ((k:Int)<(l.length:Int)))] fun S=>amV<|dA _ _<|anj (fun _ iQ=>?_);refine amX S (fun kP=>?_) (fun kP=>?_)
 ·refine ano<|iQ _ _<|anj fun _ dJ=>anp<|amW (fun _ gZ=>?_);have rG:k<l.length:=by have:=anC kP; omega
  obtain⟨b10,o11,rfl,x16,yA,JA,ML⟩:=anF (dW h) (fun _=>rfl) (k) rG;have S:=S.view0 JA ML;refine adr S 3 [.idx k l.length,.mem 0 0] [(5,.i x16)] (hk:=⟨rG,trivial⟩) fun S=>amV<|gZ _ _<|anj fun _ jH=>amW fun _ ji=>adr S 6 [] [(20,.bool ((decide (x16<0))||(decide (1048576<x16))))] fun S=>amV (ji _ _ ?_);refine amX S (fun tN=>?_) (fun tN=>?_)
  ·refine amW fun _ jT=>adr S 1 [] [(2,.bool false)] fun S=>amV<|jT _ _<|amZ S results196 ?_;exact⟨aB (Pj rG hR (by rw[yA]; exact tN)),S.E⟩
  refine ano<|jH _ _<|ant<|adr S 6 [] [(3,.bool (any||(decide (0<x16))))] fun S=>amV<|dJ _ _<|ant<|adr S 2 [.re 26 (.i (IntKind.i64.wrap ((k:Int)+1))) (.i (k+1:Nat))] [(11,.i (k+1:Nat))] (hk:=⟨am8 (by omega),trivial⟩) fun S=>amV ?_;show ∃i',_∧_;exact⟨((k+1),any||(decide (0<x16))),⟨by omega,(by rw[←yA]; exact Kt rG hR (by rw[yA]; exact tN)),S.sn⟩,by show _-_<_-_; omega⟩
 refine anB<|gY _ _<|amW fun _ kE=>adr S 13 [] [(2,.bool ((any&&(((Int.tmod (l.length:Int) 2))==0))&&(decide ((l.length:Int)≤16))))] fun S=>amV<|kE _ _<|amZ S results196 ?_;exact⟨aB (Pm (by have:=anE kP; omega) hR),S.E⟩
def aW.valid(p:aW):Bool:=(((((((decide (1≤p.width)&&decide (p.width≤16384))&&((((p.join)==1)||((p.join)==2))||((p.join)==3)))&&((((p.cap)==3)||((p.cap)==4))||((p.cap)==5)))&&(decide (256≤p.eF)))&&(decide (p.eF≤65536)))&&(nN p.dash))&&(decide (0≤p.phase)))&&(decide (p.phase≤1048576))
def aW.eq(p q:aW):Bool:=((((((p.width)==q.width)&&((p.join)==q.join))&&((p.cap)==q.cap))&&((p.eF)==q.eF))&&((p.phase)==q.phase))&&(decide (p.dash=q.dash))
theorem Yf{w:World}{p:aW}(h:p.ok w) :
  Calls prog 155 #[p.v] w fun e w'=>e = .returned (.bool p.valid)∧Ext w w':=by
 skip;refine am0 func155 ntmps155 fun ac S=>amW fun _ aO=>amY S 1 p.cells fun ac u b2 E3 hb4 S=>adr S 1 [] [(2,.bool false)] fun S=>amV<|aO _ _<|amW fun _ dA=>adr S 14 [.mem 0 1,.mem 0 1,.mem 0 1] [(3,.bool ((((p.join)==1)||((p.join)==2))||((p.join)==3)))] fun S=>amV<|dA _ _<|amW fun _ iQ=>adr S 14 [.mem 0 2,.mem 0 2,.mem 0 2] [(4,.bool ((((p.cap)==3)||((p.cap)==4))||((p.cap)==5)))] fun S=>amV<|iQ _ _<|amW fun _ jB=>adr S 2 [.mem 0 0] [(32,.i p.width)] fun S=>anl S 33 (aaV p.width _) fun ac S=>am9 S 32 [.mem 0 3,.mem 0 3,.mem 0 4,.mem 0 5,.mem 0 5] [(_,_,(((((decide (1≤p.width)&&decide (p.width≤16384))&&((((p.join)==1)||((p.join)==2))||((p.join)==3)))&&((((p.cap)==3)||((p.cap)==4))||((p.cap)==5)))&&(decide (256≤p.eF)))&&(decide (p.eF≤65536))),.bool (nN p.dash))] [(2,.bool ((((((((decide (1≤p.width)&&decide (p.width≤16384))&&((((p.join)==1)||((p.join)==2))||((p.join)==3)))&&((((p.cap)==3)||((p.cap)==4))||((p.cap)==5)))&&(decide (256≤p.eF)))&&(decide (p.eF≤65536)))&&(nN p.dash))&&(decide (0≤p.phase)))&&(decide (p.phase≤1048576))))] ⟨fun u hC g=>TM (h.2.2.2.2.1.below (Ext.trans' S.E hC)),trivial⟩ fun ac u E8 S=>amV<|jB _ _<|amZ S results155 ?_;exact⟨rfl,S.E⟩
theorem yB{w:World}{p q:aW}(h:p.ok w)(h':q.ok w) :
  Calls prog 96 #[p.v,q.v] w fun e w'=>e = .returned (.bool (p.eq q))∧Ext w w':=by
 skip;refine am0 func96 ntmps96 fun ac S=>amW fun _ aO=>amY S 2 p.cells fun ac u b2 E3 hb4 S=>amY S 3 q.cells fun ac u b5 E6 hb7 S=>adr S 1 [] [(4,.bool false)] fun S=>amV<|aO _ _<|amW fun _ dJ=>am9 S 41 [.mem 1 0,.mem 0 0,.mem 1 1,.mem 0 1,.mem 1 2,.mem 0 2,.mem 1 3,.mem 0 3,.mem 1 5,.mem 0 5,.mem 1 4,.mem 0 4] [(_,_,((((((p.width)==q.width)&&((p.join)==q.join))&&((p.cap)==q.cap))&&((p.eF)==q.eF))&&((p.phase)==q.phase)),.bool (p.dash=q.dash))] [(4,.bool (((((((p.width)==q.width)&&((p.join)==q.join))&&((p.cap)==q.cap))&&((p.eF)==q.eF))&&((p.phase)==q.phase))&&(decide (p.dash=q.dash))))] ⟨fun u hC g=>X4 (dW (h.2.2.2.2.1.below (Ext.trans' S.E hC))) (dW (h'.2.2.2.2.1.below (Ext.trans' S.E hC))),trivial⟩ fun ac u E9 S=>amV<|dJ _ _<|amZ S results96 ?_;exact⟨rfl,S.E⟩
theorem Pn(n:Int)(w:World) :
  Calls prog 112 #[.i n] w fun e w'=>e = .returned (.bool ((n==1)||(n==2)))∧w=w':=by
 skip;refine am0 func112 ntmps112 fun ac S=>amW fun _ aO=>adr S 1 [] [(2,.bool false)] fun S=>amV<|aO _ _<|amW fun _ eG=>adr S 7 [] [(2,.bool (((n)==1)||((n)==2)))] fun S=>amV<|eG _ _<|amZ S results112 ?_;exact⟨rfl,rfl⟩
theorem jv(b:Bool)(n:Int)(w:World) :
  Calls prog 114 #[.bool b,.i n] w fun e w'=>e = .returned (dI b n)∧w=w':=by
 skip;refine am0 func114 ntmps114 fun ac S=>amW fun _ aO=>adr S 1 [] [(4,.nilIface)] fun S=>amV<|aO _ _<|anj fun _ eG=>amW fun _ gY=>adr S 2 [] [(6,.bool (!b))] fun S=>amV (gY _ _ ?_);refine amX S (fun hc4=>?_) (fun hc4=>?_)
 ·refine amW fun _ dA=>adr S 1 [] [(4,.nilIface)] fun S=>amV<|dA _ _<|amZ S results114 ?_;obtain rfl:b=false:=by simpa using hc4
  exact⟨rfl,rfl⟩
 refine ano<|eG _ _<|amW fun _ iQ=>adr S 4 [] [(4,.iface 111 (.agg #[.i n,.nilIface]))] fun S=>amV<|iQ _ _<|amZ S results114 ?_;obtain rfl:b=true:=by simpa using hc4
 exact⟨rfl,rfl⟩
theorem first_any{w:World}{v:Value}{l:List (Bool×Int)}(h:aN 1 (fun p=>[dI p.1 p.2]) w v l) :
  Calls prog 113 #[v] w fun e w'=>e = .returned (kS l)∧Ext w w':=by
 obtain⟨a,cap,rfl⟩:=h.shape;have hmax:l.length≤9223372036854775807:=h.len;refine am0 func113 ntmps113 fun ac S=>amW fun _ aO=>adr S 1 [] [(2,.nilIface)] fun S=>amV<|aO _ _<|anj fun _ eG=>amW fun _ gY=>adr S 3 [] [(5,.slice a l.length cap),(6,.i l.length),(7,.i 0)] fun S=>amV<|gY _ _<|anp ?_;refine anP (ι:=Nat) (fun p a' w'=>p≤l.length∧(kS l=kS (l.drop p))∧Sx.St w a' w' 17 [(0,.slice a l.length cap),(2,.nilIface),(5,.slice a l.length cap),(6,.i l.length),(7,.i p)] [] []) (fun p=>l.length-p) (0) ⟨anz _,rfl,S.sn⟩ ?_;rintro k ac u hI;try dsimp only at hI
 obtain⟨hk,hR,S⟩:=hI;refine amW fun _ lQ=>adr S 1 [] [(8,.bool ((k:Int)<(l.length:Int)))] fun S=>amV<|lQ _ _<|anj (fun _ dA=>?_);refine amX S (fun hc6=>?_) (fun hc6=>?_)
 ·refine ano<|dA _ _<|anj fun _ jB=>anp<|amW (fun _ dJ=>?_);have vI:k<l.length:=by have:=anC hc6; omega
  obtain⟨b9,o10,rfl,x15,DF,hb16,TN⟩:=anF h (fun _=>rfl) (k) vI;have S:=S.view0 hb16 TN;refine adr S 3 [.idx k l.length,.mem 0 0] [(4,dI x15.1 x15.2)] (hk:=⟨vI,trivial⟩) fun S=>amV<|dJ _ _<|amW fun _ iD=>adr S 2 [.cmp .neq 108 (.tmp 11) (.const .nilIface) (dI x15.1 x15.2) .nilIface (.bool (!(!x15.1)))] [(12,.bool (!(!x15.1)))] (hk:=⟨Ye,trivial⟩) fun S=>amV (iD _ _ ?_);refine amX S (fun hc18=>?_) (fun hc18=>?_)
  ·have hb:x15.1=true:=by simpa using hc18
   rw[show dI x15.1 x15.2 = .iface 111 (.agg #[.i x15.2,.nilIface])from anv hb]at S;refine amW fun _ ji=>adr S 4 [] [(2,.iface 111 (.agg #[.i 0,.iface 111 (.agg #[.i x15.2,.nilIface])]))] fun S=>amV<|ji _ _<|amZ S results113 ?_;exact⟨by rw[hR,aoo vI,DF,kS,anv hb],S.E⟩
  refine ano<|jB _ _<|ant<|adr S 2 [.re 16 (.i (IntKind.i64.wrap ((k:Int)+1))) (.i (k+1:Nat))] [(7,.i (k+1:Nat))] (hk:=⟨am8 (by omega),trivial⟩) fun S=>amV ?_;show ∃i',_∧_;exact⟨(k+1),⟨by omega,(by rw[hR,aoo vI,DF,kS,anq (by simpa using hc18)]),S.sn⟩,by show _-_<_-_; omega⟩
 refine anB<|eG _ _<|amW fun _ jo=>adr S 1 [] [(2,.nilIface)] fun S=>amV<|jo _ _<|amZ S results113 ?_;exact⟨by rw[hR,aon (by have:=anE hc6; omega)]; rfl,S.E⟩
end Go.Proofs.YtfmkkemfhjkajaaGreatDoor
