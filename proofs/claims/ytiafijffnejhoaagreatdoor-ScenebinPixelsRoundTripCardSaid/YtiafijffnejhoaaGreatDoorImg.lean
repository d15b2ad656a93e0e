/- slices.Equal of the rows that nodes hold. -/
import Derived.Test.YtiafijffnejhoaaGreatDoorPath
set_option linter.unusedVariables false
set_option maxHeartbeats 1600000
set_option maxRecDepth 100000
namespace Go.Proofs.YtiafijffnejhoaaGreatDoor
open Go.RowKit
variable{α:Type}
theorem aI{a b:Bool}(h:a=b):Ending.returned (.bool a) = .returned (.bool b):=by rw[h]
theorem jW [DecidableEq α]{l m:List α}(h:((l.length:Int) != (m.length:Int))=true):false=decide (l=m):=by
 have h1:l≠m:=fun e=>by subst e; simp at h
 simp[h1]
theorem jF{l m:List α}(h:((l.length:Int) != (m.length:Int))=false):l.length=m.length:=by simp at h; omega
theorem oD [DecidableEq α]{l m:List α}{k:Nat}(hk:l.length≤k)(h:l.length=m.length)(hR:l.take k=m.take k):true=decide (l=m):=by
 rw[ahV hk,ahV (by omega)]at hR; simp[hR]
theorem oC [DecidableEq α]{l m:List α}{k:Nat}(h1:k<l.length)(h2:k<m.length)(h:l[k]≠m[k]):false=decide (l=m):=by
 have h1:l≠m:=fun e=>by subst e; exact h rfl
 simp[h1]
theorem jX{l m:List α}{k:Nat}(h1:k<l.length)(h2:k<m.length)(hR:l.take k=m.take k)(h:l[k]=m[k]):l.take (k+1)=m.take (k+1):=by
 rw[ahM h1,ahM h2,hR,h]
theorem Q8{x y:gQ}(h:(!((x.verb==y.verb)&&((x.a.x==y.a.x)&&((x.a.y==y.a.y)&&((x.b.x==y.b.x)&&((x.b.y==y.b.y)&&((x.c.x==y.c.x)&&(x.c.y==y.c.y))))))))=false):x=y:=by
 obtain⟨v,⟨a,b⟩,⟨c,d⟩,⟨e,f⟩⟩:=x;obtain⟨v',⟨a',b'⟩,⟨c',d'⟩,⟨e',f'⟩⟩:=y;simp at h ⊢; omega
theorem zU{a b:UInt8}(h:(a.toNat:Int)=(b.toNat:Int)):a=b:=UInt8.toNat_inj.1 (by omega)
theorem JB{x y:aO}(h:(!(((x.r.toNat:Int)==y.r.toNat)&&(((x.g.toNat:Int)==y.g.toNat)&&(((x.b.toNat:Int)==y.b.toNat)&&((x.a.toNat:Int)==y.a.toNat)))))=false):x=y:=by
 obtain⟨a,b,c,d⟩:=x;obtain⟨a',b',c',d'⟩:=y;simp only[aiZ,ahD,ahu]at h;rw[zU h.1,zU h.2.1,zU h.2.2.1,zU h.2.2.2]
theorem MG{x y:iR}(h:(!((x.o==y.o)&&(((x.c.r.toNat:Int)==y.c.r.toNat)&&(((x.c.g.toNat:Int)==y.c.g.toNat)&&(((x.c.b.toNat:Int)==y.c.b.toNat)&&((x.c.a.toNat:Int)==y.c.a.toNat))))))=false):x=y:=by
 obtain⟨o,c⟩:=x;obtain⟨o',c'⟩:=y;simp only[aiZ,ahD,ahu]at h;have:c=c':=JB (by simp only[aiZ,ahD,ahu]; exact h.2);rw[h.1,this]
theorem Ro{x y:Int}(h:(x != y)=false):x=y:=by simpa using h
theorem OD{w:World}{v u:Value}{l m:List gQ}(h:aK 7 gQ.cells w v l)(h':aK 7 gQ.cells w u m) :
  Calls Tryz.prog 125 #[v,u] w fun e w'=>e = .returned (.bool (l=m))∧Ext w w':=by
 obtain⟨a,cap,rfl⟩:=h.shape;obtain⟨d,cap',rfl⟩:=h'.shape;have hmax:l.length≤9223372036854775807:=h.len;refine agX Tryz.func125 Tryz.ntmps125 fun ac S=>agS fun _ aX=>adr S 1 [] [(4,.bool false)] fun S=>agR<|aX _ _<|ag9 fun _ fH=>agS fun _ jK=>adr S 5 [] [(10,.bool (((l.length:Int)) != (m.length:Int)))] fun S=>agR (jK _ _ ?_);refine agU S (fun hc4=>?_) (fun hc4=>?_)
 ·refine agS fun _ dM=>adr S 1 [] [(4,.bool false)] fun S=>agR<|dM _ _<|agV S Tryz.results125 ?_;exact⟨aI (jW hc4),S.E⟩
 refine aha<|fH _ _<|ag9 fun _ iI=>agS fun _ jf=>adr S 3 [] [(12,.i l.length),(13,.i 0)] fun S=>agR<|jf _ _<|ahc ?_;refine ahJ (ι:=Nat) (fun p a' w'=>p≤l.length∧(l.take p=m.take p)∧Sx.St w a' w' 26 [(0,.slice a l.length cap),(1,.slice d m.length cap'),(4,.bool false),(12,.i l.length),(13,.i p)] [] []) (fun p=>l.length-p) (0) ⟨ahk _,rfl,S.sn⟩ ?_;rintro k ac u hI;try dsimp only at hI
 obtain⟨hk,hR,S⟩:=hI;refine agS fun _ dU=>adr S 1 [] [(14,.bool ((k:Int)<(l.length:Int)))] fun S=>agR<|dU _ _<|ag9 (fun _ iP=>?_);refine agU S (fun cO=>?_) (fun cO=>?_)
 ·refine aha<|iP _ _<|ag9 fun _ dB=>ahc<|agS fun _ dP=>adr S 2 [] [(5,.i k)] fun S=>agR<|dP _ _<|ag9 (fun _ gX=>?_);have nC:k<l.length:=by have:=aho cO; omega
  obtain⟨b15,o16,rfl,x21,xX,Ez,EC⟩:=ahx h (fun _=>rfl) (k) nC;have S:=S.view0 Ez EC;have qp:k<m.length:=by have:=jF hc4; have:=aho cO; omega
  obtain⟨b23,o24,rfl,y29,hx27,zV,JG⟩:=ahx h' (fun _=>rfl) (k) qp;have S:=S.view0 zV JG;refine ag2 S 9 [.idx k l.length,.mem 1 0,.idx k m.length,.mem 0 0,.cmp .neq 129 (.tmp 19) (.tmp 23) (.agg #[.i x21.verb,.i x21.a.x,.i x21.a.y,.i x21.b.x,.i x21.b.y,.i x21.c.x,.i x21.c.y]) (.agg #[.i y29.verb,.i y29.a.x,.i y29.a.y,.i y29.b.x,.i y29.b.y,.i y29.c.x,.i y29.c.y]) (.bool (!((x21.verb==y29.verb)&&((x21.a.x==y29.a.x)&&((x21.a.y==y29.a.y)&&((x21.b.x==y29.b.x)&&((x21.b.y==y29.b.y)&&((x21.c.x==y29.c.x)&&(x21.c.y==y29.c.y)))))))))] [] [(24,.bool (!((x21.verb==y29.verb)&&((x21.a.x==y29.a.x)&&((x21.a.y==y29.a.y)&&((x21.b.x==y29.b.x)&&((x21.b.y==y29.b.y)&&((x21.c.x==y29.c.x)&&(x21.c.y==y29.c.y)))))))))] trivial (hk:=⟨nC,qp,Sx.dX (fun _=>YA ..) (by kernel_rfl),trivial⟩) fun ac u L8 S=>agR (gX _ _ ?_);refine agU S (fun hc31=>?_) (fun hc31=>?_)
  ·refine agS fun _ lG=>adr S 1 [] [(4,.bool false)] fun S=>agR<|lG _ _<|agV S Tryz.results125 ?_;exact⟨aI (oC nC qp (fun e=>by have hq:=hc31; rw[xX,hx27]at e; subst e; simp at hq)),S.E⟩
  refine aha<|dB _ _<|ahi<|adr S 2 [.re 25 (.i (IntKind.i64.wrap ((k:Int)+1))) (.i (k+1:Nat))] [(13,.i (k+1:Nat))] (hk:=⟨ag7 (by omega),trivial⟩) fun S=>agR ?_;show ∃i',_∧_;exact⟨(k+1),⟨by omega,(jX nC qp hR (by rw[xX,hx27]; exact Q8 hc31)),S.sn⟩,by show _-_<_-_; omega⟩
 refine ahn<|iI _ _<|agS fun _ kW=>adr S 1 [] [(4,.bool true)] fun S=>agR<|kW _ _<|agV S Tryz.results125 ?_;exact⟨aI (oD (by have:=aht cO; omega) (jF hc4) hR),S.E⟩
theorem JH{w:World}{v u:Value}{l m:List iR}(h:aK 5 iR.cells w v l)(h':aK 5 iR.cells w u m) :
  Calls Tryz.prog 126 #[v,u] w fun e w'=>e = .returned (.bool (l=m))∧Ext w w':=by
 obtain⟨a,cap,rfl⟩:=h.shape;obtain⟨d,cap',rfl⟩:=h'.shape;have hmax:l.length≤9223372036854775807:=h.len;refine agX Tryz.func126 Tryz.ntmps126 fun ac S=>agS fun _ aX=>adr S 1 [] [(4,.bool false)] fun S=>agR<|aX _ _<|ag9 fun _ fH=>agS fun _ jK=>adr S 5 [] [(10,.bool (((l.length:Int)) != (m.length:Int)))] fun S=>agR (jK _ _ ?_);refine agU S (fun hc4=>?_) (fun hc4=>?_)
 ·refine agS fun _ dM=>adr S 1 [] [(4,.bool false)] fun S=>agR<|dM _ _<|agV S Tryz.results126 ?_;exact⟨aI (jW hc4),S.E⟩
 refine aha<|fH _ _<|ag9 fun _ iI=>agS fun _ jf=>adr S 3 [] [(12,.i l.length),(13,.i 0)] fun S=>agR<|jf _ _<|ahc ?_;refine ahJ (ι:=Nat) (fun p a' w'=>p≤l.length∧(l.take p=m.take p)∧Sx.St w a' w' 26 [(0,.slice a l.length cap),(1,.slice d m.length cap'),(4,.bool false),(12,.i l.length),(13,.i p)] [] []) (fun p=>l.length-p) (0) ⟨ahk _,rfl,S.sn⟩ ?_;rintro k ac u hI;try dsimp only at hI
 obtain⟨hk,hR,S⟩:=hI;refine agS fun _ dU=>adr S 1 [] [(14,.bool ((k:Int)<(l.length:Int)))] fun S=>agR<|dU _ _<|ag9 (fun _ iP=>?_);refine agU S (fun cO=>?_) (fun cO=>?_)
 ·refine aha<|iP _ _<|ag9 fun _ dB=>ahc<|agS fun _ dP=>adr S 2 [] [(5,.i k)] fun S=>agR<|dP _ _<|ag9 (fun _ gX=>?_);have nC:k<l.length:=by have:=aho cO; omega
  obtain⟨b15,o16,rfl,x21,xX,Ez,EC⟩:=ahx h (fun _=>rfl) (k) nC;have S:=S.view0 Ez EC;have qp:k<m.length:=by have:=jF hc4; have:=aho cO; omega
  obtain⟨b23,o24,rfl,y29,hx27,zV,JG⟩:=ahx h' (fun _=>rfl) (k) qp;have S:=S.view0 zV JG;refine ag2 S 9 [.idx k l.length,.mem 1 0,.idx k m.length,.mem 0 0,.cmp .neq 166 (.tmp 19) (.tmp 23) (.agg #[.i x21.o,.int .u8 (x21.c.r.toNat:Int),.int .u8 (x21.c.g.toNat:Int),.int .u8 (x21.c.b.toNat:Int),.int .u8 (x21.c.a.toNat:Int)]) (.agg #[.i y29.o,.int .u8 (y29.c.r.toNat:Int),.int .u8 (y29.c.g.toNat:Int),.int .u8 (y29.c.b.toNat:Int),.int .u8 (y29.c.a.toNat:Int)]) (.bool (!((x21.o==y29.o)&&(((x21.c.r.toNat:Int)==(y29.c.r.toNat:Int))&&(((x21.c.g.toNat:Int)==(y29.c.g.toNat:Int))&&(((x21.c.b.toNat:Int)==(y29.c.b.toNat:Int))&&((x21.c.a.toNat:Int)==(y29.c.a.toNat:Int))))))))] [] [(24,.bool (!((x21.o==y29.o)&&(((x21.c.r.toNat:Int)==(y29.c.r.toNat:Int))&&(((x21.c.g.toNat:Int)==(y29.c.g.toNat:Int))&&(((x21.c.b.toNat:Int)==(y29.c.b.toNat:Int))&&((x21.c.a.toNat:Int)==(y29.c.a.toNat:Int))))))))] trivial (hk:=⟨nC,qp,Sx.dX (fun _=>Q9 ..) (by kernel_rfl),trivial⟩) fun ac u L8 S=>agR (gX _ _ ?_);refine agU S (fun hc31=>?_) (fun hc31=>?_)
  ·refine agS fun _ lG=>adr S 1 [] [(4,.bool false)] fun S=>agR<|lG _ _<|agV S Tryz.results126 ?_;exact⟨aI (oC nC qp (fun e=>by have hq:=hc31; rw[xX,hx27]at e; subst e; simp at hq)),S.E⟩
  refine aha<|dB _ _<|ahi<|adr S 2 [.re 25 (.i (IntKind.i64.wrap ((k:Int)+1))) (.i (k+1:Nat))] [(13,.i (k+1:Nat))] (hk:=⟨ag7 (by omega),trivial⟩) fun S=>agR ?_;show ∃i',_∧_;exact⟨(k+1),⟨by omega,(jX nC qp hR (by rw[xX,hx27]; exact MG hc31)),S.sn⟩,by show _-_<_-_; omega⟩
 refine ahn<|iI _ _<|agS fun _ kW=>adr S 1 [] [(4,.bool true)] fun S=>agR<|kW _ _<|agV S Tryz.results126 ?_;exact⟨aI (oD (by have:=aht cO; omega) (jF hc4) hR),S.E⟩
theorem OE{w:World}{v u:Value}{l m:List aO}(h:aK 4 aO.cells w v l)(h':aK 4 aO.cells w u m) :
  Calls Tryz.prog 128 #[v,u] w fun e w'=>e = .returned (.bool (l=m))∧Ext w w':=by
 obtain⟨a,cap,rfl⟩:=h.shape;obtain⟨d,cap',rfl⟩:=h'.shape;have hmax:l.length≤9223372036854775807:=h.len;refine agX Tryz.func128 Tryz.ntmps128 fun ac S=>agS fun _ aX=>adr S 1 [] [(4,.bool false)] fun S=>agR<|aX _ _<|ag9 fun _ fH=>agS fun _ jK=>adr S 5 [] [(10,.bool (((l.length:Int)) != (m.length:Int)))] fun S=>agR (jK _ _ ?_);refine agU S (fun hc4=>?_) (fun hc4=>?_)
 ·refine agS fun _ dM=>adr S 1 [] [(4,.bool false)] fun S=>agR<|dM _ _<|agV S Tryz.results128 ?_;exact⟨aI (jW hc4),S.E⟩
 refine aha<|fH _ _<|ag9 fun _ iI=>agS fun _ jf=>adr S 3 [] [(12,.i l.length),(13,.i 0)] fun S=>agR<|jf _ _<|ahc ?_;refine ahJ (ι:=Nat) (fun p a' w'=>p≤l.length∧(l.take p=m.take p)∧Sx.St w a' w' 26 [(0,.slice a l.length cap),(1,.slice d m.length cap'),(4,.bool false),(12,.i l.length),(13,.i p)] [] []) (fun p=>l.length-p) (0) ⟨ahk _,rfl,S.sn⟩ ?_;rintro k ac u hI;try dsimp only at hI
 obtain⟨hk,hR,S⟩:=hI;refine agS fun _ dU=>adr S 1 [] [(14,.bool ((k:Int)<(l.length:Int)))] fun S=>agR<|dU _ _<|ag9 (fun _ iP=>?_);refine agU S (fun cO=>?_) (fun cO=>?_)
 ·refine aha<|iP _ _<|ag9 fun _ dB=>ahc<|agS fun _ dP=>adr S 2 [] [(5,.i k)] fun S=>agR<|dP _ _<|ag9 (fun _ gX=>?_);have nC:k<l.length:=by have:=aho cO; omega
  obtain⟨b15,o16,rfl,x21,xX,Ez,EC⟩:=ahx h (fun _=>rfl) (k) nC;have S:=S.view0 Ez EC;have qp:k<m.length:=by have:=jF hc4; have:=aho cO; omega
  obtain⟨b23,o24,rfl,y29,hx27,zV,JG⟩:=ahx h' (fun _=>rfl) (k) qp;have S:=S.view0 zV JG;refine ag2 S 9 [.idx k l.length,.mem 1 0,.idx k m.length,.mem 0 0,.cmp .neq 74 (.tmp 19) (.tmp 23) (.agg #[.int .u8 (x21.r.toNat:Int),.int .u8 (x21.g.toNat:Int),.int .u8 (x21.b.toNat:Int),.int .u8 (x21.a.toNat:Int)]) (.agg #[.int .u8 (y29.r.toNat:Int),.int .u8 (y29.g.toNat:Int),.int .u8 (y29.b.toNat:Int),.int .u8 (y29.a.toNat:Int)]) (.bool (!(((x21.r.toNat:Int)==(y29.r.toNat:Int))&&(((x21.g.toNat:Int)==(y29.g.toNat:Int))&&(((x21.b.toNat:Int)==(y29.b.toNat:Int))&&((x21.a.toNat:Int)==(y29.a.toNat:Int)))))))] [] [(24,.bool (!(((x21.r.toNat:Int)==(y29.r.toNat:Int))&&(((x21.g.toNat:Int)==(y29.g.toNat:Int))&&(((x21.b.toNat:Int)==(y29.b.toNat:Int))&&((x21.a.toNat:Int)==(y29.a.toNat:Int)))))))] trivial (hk:=⟨nC,qp,Sx.dX (fun _=>Rj ..) (by kernel_rfl),trivial⟩) fun ac u L8 S=>agR (gX _ _ ?_);refine agU S (fun hc31=>?_) (fun hc31=>?_)
  ·refine agS fun _ lG=>adr S 1 [] [(4,.bool false)] fun S=>agR<|lG _ _<|agV S Tryz.results128 ?_;exact⟨aI (oC nC qp (fun e=>by have hq:=hc31; rw[xX,hx27]at e; subst e; simp at hq)),S.E⟩
  refine aha<|dB _ _<|ahi<|adr S 2 [.re 25 (.i (IntKind.i64.wrap ((k:Int)+1))) (.i (k+1:Nat))] [(13,.i (k+1:Nat))] (hk:=⟨ag7 (by omega),trivial⟩) fun S=>agR ?_;show ∃i',_∧_;exact⟨(k+1),⟨by omega,(jX nC qp hR (by rw[xX,hx27]; exact JB hc31)),S.sn⟩,by show _-_<_-_; omega⟩
 refine ahn<|iI _ _<|agS fun _ kW=>adr S 1 [] [(4,.bool true)] fun S=>agR<|kW _ _<|agV S Tryz.results128 ?_;exact⟨aI (oD (by have:=aht cO; omega) (jF hc4) hR),S.E⟩
theorem OG{w:World}{v u:Value}{l m:List Int}(h:aK 1 (fun x=>[OA x]) w v l)(h':aK 1 (fun x=>[OA x]) w u m) :
  Calls Tryz.prog 127 #[v,u] w fun e w'=>e = .returned (.bool (l=m))∧Ext w w':=by
 obtain⟨a,cap,rfl⟩:=h.shape;obtain⟨d,cap',rfl⟩:=h'.shape;have hmax:l.length≤9223372036854775807:=h.len;refine agX Tryz.func127 Tryz.ntmps127 fun ac S=>agS fun _ aX=>adr S 1 [] [(4,.bool false)] fun S=>agR<|aX _ _<|ag9 fun _ fH=>agS fun _ jK=>adr S 5 [] [(10,.bool (((l.length:Int)) != (m.length:Int)))] fun S=>agR (jK _ _ ?_);refine agU S (fun hc4=>?_) (fun hc4=>?_)
 ·refine agS fun _ dM=>adr S 1 [] [(4,.bool false)] fun S=>agR<|dM _ _<|agV S Tryz.results127 ?_;exact⟨aI (jW hc4),S.E⟩
 refine aha<|fH _ _<|ag9 fun _ iI=>agS fun _ jf=>adr S 3 [] [(12,.i l.length),(13,.i 0)] fun S=>agR<|jf _ _<|ahc ?_;refine ahJ (ι:=Nat) (fun p a' w'=>p≤l.length∧(l.take p=m.take p)∧Sx.St w a' w' 26 [(0,.slice a l.length cap),(1,.slice d m.length cap'),(4,.bool false),(12,.i l.length),(13,.i p)] [] []) (fun p=>l.length-p) (0) ⟨ahk _,rfl,S.sn⟩ ?_;rintro k ac u hI;try dsimp only at hI
 obtain⟨hk,hR,S⟩:=hI;refine agS fun _ dU=>adr S 1 [] [(14,.bool ((k:Int)<(l.length:Int)))] fun S=>agR<|dU _ _<|ag9 (fun _ iP=>?_);refine agU S (fun cO=>?_) (fun cO=>?_)
 ·refine aha<|iP _ _<|ag9 fun _ dB=>ahc<|agS fun _ dP=>adr S 2 [] [(5,.i k)] fun S=>agR<|dP _ _<|ag9 (fun _ gX=>?_);have nC:k<l.length:=by have:=aho cO; omega
  obtain⟨b15,o16,rfl,x21,xX,Ez,EC⟩:=ahx h (fun _=>rfl) (k) nC;have S:=S.view0 Ez EC;have qp:k<m.length:=by have:=jF hc4; have:=aho cO; omega
  obtain⟨b23,o24,rfl,y29,hx27,zV,JG⟩:=ahx h' (fun _=>rfl) (k) qp;have S:=S.view0 zV JG;refine ag2 S 9 [.idx k l.length,.mem 1 0,.idx k m.length,.mem 0 0] [] [(24,.bool ((x21) != y29))] trivial (hk:=⟨nC,qp,trivial⟩) fun ac u L8 S=>agR (gX _ _ ?_);refine agU S (fun hc31=>?_) (fun hc31=>?_)
  ·refine agS fun _ lG=>adr S 1 [] [(4,.bool false)] fun S=>agR<|lG _ _<|agV S Tryz.results127 ?_;exact⟨aI (oC nC qp (fun e=>by have hq:=hc31; rw[xX,hx27]at e; subst e; simp at hq)),S.E⟩
  refine aha<|dB _ _<|ahi<|adr S 2 [.re 25 (.i (IntKind.i64.wrap ((k:Int)+1))) (.i (k+1:Nat))] [(13,.i (k+1:Nat))] (hk:=⟨ag7 (by omega),trivial⟩) fun S=>agR ?_;show ∃i',_∧_;exact⟨(k+1),⟨by omega,(jX nC qp hR (by rw[xX,hx27]; exact Ro hc31)),S.sn⟩,by show _-_<_-_; omega⟩
 refine ahn<|iI _ _<|agS fun _ kW=>adr S 1 [] [(4,.bool true)] fun S=>agR<|kW _ _<|agV S Tryz.results127 ?_;exact⟨aI (oD (by have:=aht cO; omega) (jF hc4) hR),S.E⟩
open Go.RowKit
variable{α:Type}
theorem OH(p:aO):(((min (p.r.toNat:Int) (p.a.toNat:Int))==(p.r.toNat:Int))&&(((min (p.g.toNat:Int) (p.a.toNat:Int))==(p.g.toNat:Int))&&(((min (p.b.toNat:Int) (p.a.toNat:Int))==(p.b.toNat:Int))&&((min (p.a.toNat:Int) (p.a.toNat:Int))==(p.a.toNat:Int)))))=p.valid:=by
 have h:∀x y:UInt8,((min (x.toNat:Int) (y.toNat:Int))==(x.toNat:Int))=decide (x≤y):=by
  intro x y; rw[aif]; simp only[ahu,ahK,UInt8.le_iff_toNat_le]; omega
 rw[h,h,h,h]; unfold aO.valid; simp
theorem yH{l:List α}{k:Nat}{p:α→Bool}(hk:l.length≤k)(h:(l.take k).all p=true):l.all p=true:=by rwa [ahV hk]at h
theorem ED{l:List α}{k:Nat}{p:α→Bool}(hk:k<l.length)(h:p l[k]=false):l.all p=false:=by
 rw[List.all_eq_false]; exact⟨l[k],ah3 hk,by simp[h]⟩
theorem uy{l:List α}{k:Nat}{p:α→Bool}(hk:k<l.length)(hR:(l.take k).all p=true)(h:p l[k]=true):(l.take (k+1)).all p=true:=by
 rw[ahM hk,List.all_append,hR]; simp[h]
theorem OI{a b:Int}(ha:side a=true)(hb:side b=true):IntKind.i64.wrap (a*b)=a*b:=by
 simp only[side,ahD,ahK]at ha hb;have h1:a*b≤4096*4096:=Int.le_trans (Int.mul_le_mul_of_nonneg_right ha.2 (by omega)) (Int.mul_le_mul_of_nonneg_left hb.2 (by omega));have h0:0≤a*b:=Int.mul_nonneg (by omega) (by omega);rw[IntKind.wrap_i64]; omega
theorem GR{m:dA}:((((!(side m.w))||(!(side m.h)))||(decide (65536<IntKind.i64.wrap (m.w*m.h))))||((m.l.length:Int) != IntKind.i64.wrap (m.w*m.h)))=((((!(side m.w))||(!(side m.h)))||(decide (65536<(m.w*m.h))))||((m.l.length:Int) != (m.w*m.h))):=by
 cases ha:side m.w<;>cases hb:side m.h<;>simp only[Bool.not_false,Bool.not_true,Bool.true_or,Bool.false_or,Bool.or_true];rw[OI ha hb]
theorem ZY{m:dA}(h:((((!(side m.w))||(!(side m.h)))||(decide (65536<(m.w*m.h))))||((m.l.length:Int) != (m.w*m.h)))=true):false=m.valid:=by
 unfold dA.valid dA.size;revert h;cases side m.w<;>cases side m.h<;>simp;intro h h1 h2; omega
theorem WE{m:dA}(h:((((!(side m.w))||(!(side m.h)))||(decide (65536<(m.w*m.h))))||((m.l.length:Int) != (m.w*m.h)))=false):(!(!(m.l.all aO.valid)))=m.valid:=by
 unfold dA.valid dA.size;revert h;cases side m.w<;>cases side m.h<;>simp;intro h h1; rw[h1]; simp[h]
theorem Z4{m n:dA}:((m.w==n.w)&&(m.h==n.h)&&decide (m.l=n.l))=m.eq n:=by
 unfold dA.eq;rw[Bool.and_assoc];by_cases h:m.l=n.l<;>simp[h]
theorem OJ{l:List iR}(h:((decide ((l.length:Int)<1))||(decide (16<(l.length:Int))))=true):false=ig l:=by
 unfold ig;simp only[Bool.or_eq_true,ahK]at h;rcases h with h | h
 ·rw[ail (by omega)]; rfl
 rw[ail (p:=l.length≤16) (by omega)]; simp
theorem GU{l:List iR}(h:((decide ((l.length:Int)<1))||(decide (16<(l.length:Int))))=false):ig l=eF 0 l:=by
 unfold ig;simp only[ah5,aiu]at h;rw[ah0 (p:=1≤l.length) (by omega),ah0 (p:=l.length≤16) (by omega)]; rfl
theorem OL{l:List iR}{k:Nat}{last:Int}(h:((decide ((l.length:Int)<1))||(decide (16<(l.length:Int))))=false)(hk:l.length≤k)(hR:eF 0 l=eF last (l.drop k)):true=ig l:=by
 rw[GU h,hR,aic hk]; rfl
theorem OM{l:List iR}{k:Nat}{last:Int}(h:((decide ((l.length:Int)<1))||(decide (16<(l.length:Int))))=false)(hk:k<l.length)(hR:eF 0 l=eF last (l.drop k))(hb:((decide (l[k].o<last))||(decide (65536<l[k].o)))=true):false=ig l:=by
 rw[GU h,hR,ahU hk,eF];simp only[Bool.or_eq_true,ahK]at hb;rcases hb with hb | hb
 ·rw[ail (by omega)]; rfl
 rw[ail (p:=l[k].o≤65536) (by omega)]; simp
theorem JI{l:List iR}{k:Nat}{last:Int}(hk:k<l.length)(hR:eF 0 l=eF last (l.drop k))(hb:((decide (l[k].o<last))||(decide (65536<l[k].o)))=false):eF 0 l=eF l[k].o (l.drop (k+1)):=by
 rw[hR,ahU hk,eF];simp only[ah5,aiu]at hb;rw[ah0 (p:=last≤l[k].o) (by omega),ah0 (p:=l[k].o≤65536) (by omega)]; rfl
theorem qw{w:World}{b:Nat}(p:aO)(x:Int)(hx:Bx w b #[.int .u8 (p.r.toNat:Int),.int .u8 (p.g.toNat:Int),.int .u8 (p.b.toNat:Int),.int .u8 (p.a.toNat:Int)]) :
  Calls Tryz.prog 219 #[.int .u8 x,.pointer (some ⟨b,0,none⟩)] w fun e w'=>e = .returned (.int .u8 (min x (p.a.toNat:Int)))∧w=w':=by
 skip;refine agX Tryz.func219 Tryz.ntmps219 (fun ac S=>?_);have S:=S.view0 hx.1 (hx.range 0 4 rfl);refine agS fun _ aX=>adr S 1 [] [(3,.int .u8 0)] fun S=>agR<|aX _ _<|agS fun _ fH=>adr S 5 [.mem 0 3,.re 7 (.int .u8 (if (p.a.toNat:Int)<x then (p.a.toNat:Int)else x)) (.int .u8 (min x (p.a.toNat:Int)))] [(3,.int .u8 (min x (p.a.toNat:Int)))] (hk:=⟨Sx.Z5,trivial⟩) fun S=>agR<|fH _ _<|agV S Tryz.results219 ?_;exact⟨rfl,rfl⟩
theorem RP{w:World}{b:Nat}(p:aO)(hx:Bx w b #[.int .u8 (p.r.toNat:Int),.int .u8 (p.g.toNat:Int),.int .u8 (p.b.toNat:Int),.int .u8 (p.a.toNat:Int)]) :
  Calls Tryz.prog 218 #[.agg #[.int .u8 (p.r.toNat:Int),.int .u8 (p.g.toNat:Int),.int .u8 (p.b.toNat:Int),.int .u8 (p.a.toNat:Int)],.func (.func 219) #[] #[.pointer (some ⟨b,0,none⟩)]] w fun e w'=>e = .returned (.agg #[.int .u8 (min (p.r.toNat:Int) (p.a.toNat:Int)),.int .u8 (min (p.g.toNat:Int) (p.a.toNat:Int)),.int .u8 (min (p.b.toNat:Int) (p.a.toNat:Int)),.int .u8 (min (p.a.toNat:Int) (p.a.toNat:Int))])∧Ext w w':=by
 skip;refine agX Tryz.func218 Tryz.ntmps218 (fun ac S=>?_);have S:=S.view0 hx.1 (hx.range 0 4 rfl);refine agS fun _ aX=>agT S 2 p.cells fun ac u b2 E3 hb4 S=>agT S 4 [.int .u8 0,.int .u8 0,.int .u8 0,.int .u8 0] fun ac u b5 E6 hb7 S=>agR<|aX _ _<|ag9 fun _ dU=>ag2 S 17 [.mem 1 0,.mem 1 1,.mem 1 2,.mem 1 3] [(_,_,true,.int .u8 (min (p.r.toNat:Int) (p.a.toNat:Int))),(_,_,true,.int .u8 (min (p.g.toNat:Int) (p.a.toNat:Int))),(_,_,true,.int .u8 (min (p.b.toNat:Int) (p.a.toNat:Int))),(_,_,true,.int .u8 (min (p.a.toNat:Int) (p.a.toNat:Int)))] [(21,.agg #[.int .u8 (min (p.r.toNat:Int) (p.a.toNat:Int)),.int .u8 (min (p.g.toNat:Int) (p.a.toNat:Int)),.int .u8 (min (p.b.toNat:Int) (p.a.toNat:Int)),.int .u8 (min (p.a.toNat:Int) (p.a.toNat:Int))])] ⟨fun u hC g=>ag6 (qw p (p.r.toNat:Int) (hx.ext (Ext.trans' S.E hC))),fun u hC g=>ag6 (qw p (p.g.toNat:Int) (hx.ext (Ext.trans' S.E hC))),fun u hC g=>ag6 (qw p (p.b.toNat:Int) (hx.ext (Ext.trans' S.E hC))),fun u hC g=>ag6 (qw p (p.a.toNat:Int) (hx.ext (Ext.trans' S.E hC))),trivial⟩ fun ac u E9 S=>agW S 0 (off:=0) (cs:=[.int .u8 (min (p.r.toNat:Int) (p.a.toNat:Int)),.int .u8 (min (p.g.toNat:Int) (p.a.toNat:Int)),.int .u8 (min (p.b.toNat:Int) (p.a.toNat:Int)),.int .u8 (min (p.a.toNat:Int) (p.a.toNat:Int))]) rfl fun u C10 S=>agR<|dU _ _<|Sx.Cc S 0 Tryz.results218 rfl (v := .agg #[.int .u8 (min (p.r.toNat:Int) (p.a.toNat:Int)),.int .u8 (min (p.g.toNat:Int) (p.a.toNat:Int)),.int .u8 (min (p.b.toNat:Int) (p.a.toNat:Int)),.int .u8 (min (p.a.toNat:Int) (p.a.toNat:Int))]) ?_;exact⟨rfl,S.E⟩
theorem JJ(p:aO)(w:World) :
  Calls Tryz.prog 194 #[.agg #[.int .u8 (p.r.toNat:Int),.int .u8 (p.g.toNat:Int),.int .u8 (p.b.toNat:Int),.int .u8 (p.a.toNat:Int)]] w fun e w'=>e = .returned (.agg #[.int .u8 (min (p.r.toNat:Int) (p.a.toNat:Int)),.int .u8 (min (p.g.toNat:Int) (p.a.toNat:Int)),.int .u8 (min (p.b.toNat:Int) (p.a.toNat:Int)),.int .u8 (min (p.a.toNat:Int) (p.a.toNat:Int))])∧Ext w w':=by
 skip;refine agX Tryz.func194 Tryz.ntmps194 fun ac S=>agS fun _ aX=>agT S 1 p.cells fun ac u b2 E3 hb4 S=>agT S 2 [.int .u8 0,.int .u8 0,.int .u8 0,.int .u8 0] fun ac u b5 E6 hb7 S=>agR<|aX _ _<|agS fun _ dU=>adr S 2 [.mem 1 0] [(3,.agg p.cells.toArray),(4,.func (.func 219) #[] #[.pointer (some ⟨b2,0,none⟩)])] fun S=>ag0 S 5 (RP p (S.bx 1)) fun ac u E9 S=>agW S 0 (off:=0) (cs:=[.int .u8 (min (p.r.toNat:Int) (p.a.toNat:Int)),.int .u8 (min (p.g.toNat:Int) (p.a.toNat:Int)),.int .u8 (min (p.b.toNat:Int) (p.a.toNat:Int)),.int .u8 (min (p.a.toNat:Int) (p.a.toNat:Int))]) rfl fun u C10 S=>agR<|dU _ _<|Sx.Cc S 0 Tryz.results194 rfl (v := .agg #[.int .u8 (min (p.r.toNat:Int) (p.a.toNat:Int)),.int .u8 (min (p.g.toNat:Int) (p.a.toNat:Int)),.int .u8 (min (p.b.toNat:Int) (p.a.toNat:Int)),.int .u8 (min (p.a.toNat:Int) (p.a.toNat:Int))]) ?_;exact⟨rfl,S.E⟩
theorem EF(p:aO)(w:World) :
  Calls Tryz.prog 164 #[.agg #[.int .u8 (p.r.toNat:Int),.int .u8 (p.g.toNat:Int),.int .u8 (p.b.toNat:Int),.int .u8 (p.a.toNat:Int)]] w fun e w'=>e = .returned (.bool p.valid)∧Ext w w':=by
 skip;refine agX Tryz.func164 Tryz.ntmps164 fun ac S=>agS fun _ aX=>agT S 1 p.cells fun ac u b2 E3 hb4 S=>adr S 1 [] [(2,.bool false)] fun S=>agR<|aX _ _<|ag9 fun _ dM=>ag2 S 4 [.mem 0 0,.mem 0 0,.cmp .eql 74 (.tmp 4) (.tmp 5) (.agg #[.int .u8 (min (p.r.toNat:Int) (p.a.toNat:Int)),.int .u8 (min (p.g.toNat:Int) (p.a.toNat:Int)),.int .u8 (min (p.b.toNat:Int) (p.a.toNat:Int)),.int .u8 (min (p.a.toNat:Int) (p.a.toNat:Int))]) (.agg #[.int .u8 (p.r.toNat:Int),.int .u8 (p.g.toNat:Int),.int .u8 (p.b.toNat:Int),.int .u8 (p.a.toNat:Int)]) (.bool (((min (p.r.toNat:Int) (p.a.toNat:Int))==(p.r.toNat:Int))&&(((min (p.g.toNat:Int) (p.a.toNat:Int))==(p.g.toNat:Int))&&(((min (p.b.toNat:Int) (p.a.toNat:Int))==(p.b.toNat:Int))&&((min (p.a.toNat:Int) (p.a.toNat:Int))==(p.a.toNat:Int))))))] [(_,_,true,.agg #[.int .u8 (min (p.r.toNat:Int) (p.a.toNat:Int)),.int .u8 (min (p.g.toNat:Int) (p.a.toNat:Int)),.int .u8 (min (p.b.toNat:Int) (p.a.toNat:Int)),.int .u8 (min (p.a.toNat:Int) (p.a.toNat:Int))])] [(6,.bool (((min (p.r.toNat:Int) (p.a.toNat:Int))==(p.r.toNat:Int))&&(((min (p.g.toNat:Int) (p.a.toNat:Int))==(p.g.toNat:Int))&&(((min (p.b.toNat:Int) (p.a.toNat:Int))==(p.b.toNat:Int))&&((min (p.a.toNat:Int) (p.a.toNat:Int))==(p.a.toNat:Int))))))] ⟨fun u hC g=>JJ p _,trivial⟩ (hk:=⟨Sx.dX (fun _=>YC ..) (by kernel_rfl),trivial⟩) fun ac u E6 S=>adr S 1 [] [(2,.bool (((min (p.r.toNat:Int) (p.a.toNat:Int))==(p.r.toNat:Int))&&(((min (p.g.toNat:Int) (p.a.toNat:Int))==(p.g.toNat:Int))&&(((min (p.b.toNat:Int) (p.a.toNat:Int))==(p.b.toNat:Int))&&((min (p.a.toNat:Int) (p.a.toNat:Int))==(p.a.toNat:Int))))))] fun S=>agR<|dM _ _<|agV S Tryz.results164 ?_;exact⟨aI (OH p),S.E⟩
theorem JK(p:aO)(w:World) :
  Calls Tryz.prog 163 #[.agg #[.int .u8 (p.r.toNat:Int),.int .u8 (p.g.toNat:Int),.int .u8 (p.b.toNat:Int),.int .u8 (p.a.toNat:Int)]] w fun e w'=>e = .returned (.bool (!p.valid))∧Ext w w':=by
 skip;refine agX Tryz.func163 Tryz.ntmps163 fun ac S=>agS fun _ aX=>agT S 1 p.cells fun ac u b2 E3 hb4 S=>adr S 1 [] [(2,.bool false)] fun S=>agR<|aX _ _<|agS fun _ dM=>adr S 1 [.mem 0 0] [(3,.agg p.cells.toArray)] fun S=>ag0 S 4 (EF p _) fun ac u E6 S=>adr S 2 [] [(2,.bool (!p.valid))] fun S=>agR<|dM _ _<|agV S Tryz.results163 ?_;exact⟨rfl,S.E⟩
theorem EG{w:World}{v:Value}{l:List aO}(h:aK 4 aO.cells w v l) :
  Calls Tryz.prog 193 #[v,.func (.func 163) #[] #[]] w fun e w'=>∃z,e = .returned (.i z)∧decide (0≤z) = !(l.all aO.valid)∧Ext w w':=by
 obtain⟨a,cap,rfl⟩:=h.shape;have hmax:l.length≤9223372036854775807:=h.len;refine agX Tryz.func193 Tryz.ntmps193 fun ac S=>agS fun _ aX=>adr S 1 [] [(4,.i 0)] fun S=>agR<|aX _ _<|ag9 fun _ fH=>agS fun _ jK=>adr S 3 [] [(7,.i l.length),(8,.i 0)] fun S=>agR<|jK _ _<|ahc ?_;refine ahJ (ι:=Nat) (fun p a' w'=>p≤l.length∧((l.take p).all aO.valid=true)∧Sx.St w a' w' 19 [(0,.slice a l.length cap),(1,.func (.func 163) #[] #[]),(4,.i 0),(7,.i l.length),(8,.i p)] [] []) (fun p=>l.length-p) (0) ⟨ahk _,rfl,S.sn⟩ ?_;rintro k ac u hI;try dsimp only at hI
 obtain⟨hk,hR,S⟩:=hI;refine agS fun _ uQ=>adr S 1 [] [(9,.bool ((k:Int)<(l.length:Int)))] fun S=>agR<|uQ _ _<|ag9 (fun _ dM=>?_);refine agU S (fun hc6=>?_) (fun hc6=>?_)
 ·refine aha<|dM _ _<|ag9 fun _ jf=>ahc<|agS fun _ dU=>adr S 2 [] [(5,.i k)] fun S=>agR<|dU _ _<|agS (fun _ iP=>?_);have pG:k<l.length:=by have:=aho hc6; omega
  obtain⟨b10,o11,rfl,x16,uZ,JL,EH⟩:=ahx h (fun _=>rfl) (k) pG;have S:=S.view0 JL EH;refine adr S 5 [.idx k l.length,.mem 0 0] [(11,.func (.func 163) #[] #[]),(15,.agg x16.cells.toArray)] (hk:=⟨pG,trivial⟩) fun S=>ag0 S 16 (JK x16 _) fun ac u Dq S=>agR (iP _ _ ?_);refine agU S (fun hc19=>?_) (fun hc19=>?_)
  ·refine agS fun _ kH=>adr S 2 [] [(4,.i k)] fun S=>agR<|kH _ _<|agV S Tryz.results193 ?_;exact⟨_,rfl,by rw[ED pG (by rw[uZ]; simpa using hc19)]; simp,S.E⟩
  refine aha<|jf _ _<|ahi<|adr S 2 [.re 18 (.i (IntKind.i64.wrap ((k:Int)+1))) (.i (k+1:Nat))] [(8,.i (k+1:Nat))] (hk:=⟨ag7 (by omega),trivial⟩) fun S=>agR ?_;show ∃i',_∧_;exact⟨(k+1),⟨by omega,(uy pG hR (by rw[uZ]; simpa using hc19)),S.sn⟩,by show _-_<_-_; omega⟩
 refine ahn<|fH _ _<|agS fun _ nV=>adr S 1 [] [(4,.i (-1))] fun S=>agR<|nV _ _<|agV S Tryz.results193 ?_;exact⟨_,rfl,by rw[yH (by have:=aht hc6; omega) hR]; rfl,S.E⟩
theorem GV{w:World}{v:Value}{l:List aO}(h:aK 4 aO.cells w v l) :
  Calls Tryz.prog 162 #[v,.func (.func 163) #[] #[]] w fun e w'=>e = .returned (.bool (!(l.all aO.valid)))∧Ext w w':=by
 skip;refine agX Tryz.func162 Tryz.ntmps162 fun ac S=>agS fun _ aX=>adr S 1 [] [(4,.bool false)] fun S=>agR<|aX _ _<|agS fun _ fH=>adr S 2 [] [(5,v),(6,.func (.func 163) #[] #[])] fun S=>agZ S (some 7) (EG (h.below S.E)) ?_;rintro e u ⟨z,rfl,hz,E3⟩;refine⟨_,rfl,E3,fun ac S=>?_⟩;refine adr S 2 [] [(4,.bool (0≤z))] fun S=>agR<|fH _ _<|agV S Tryz.results162 ?_;exact⟨aI hz,S.E⟩
theorem GX(n:Int)(w:World) :
  Calls Tryz.prog 161 #[.i n] w fun e w'=>e = .returned (.bool (side n))∧w=w':=by
 skip;refine agX Tryz.func161 Tryz.ntmps161 fun ac S=>agS fun _ aX=>adr S 1 [] [(2,.bool false)] fun S=>agR<|aX _ _<|agS fun _ fH=>adr S 7 [] [(2,.bool ((decide (1≤n))&&(decide (n≤4096))))] fun S=>agR<|fH _ _<|agV S Tryz.results161 ?_;exact⟨rfl,rfl⟩
theorem wH{w:World}{m:dA}(h:m.ok w) :
  Calls Tryz.prog 138 #[m.v] w fun e w'=>e = .returned (.bool m.valid)∧Ext w w':=by
 obtain⟨a,cap,hs⟩:=h.2.2.shape;unfold dA.v;have hq:=h.2.2;rw[hs];rw[hs]at hq;refine agX Tryz.func138 Tryz.ntmps138 fun ac S=>agS fun _ aX=>agT S 1 [.i m.w,.i m.h,.slice a m.l.length cap] fun ac u b2 E3 hb4 S=>adr S 1 [] [(2,.bool false)] fun S=>agR<|aX _ _<|agS fun _ dM=>adr S 1 [] [(3,.func (.func 161) #[] #[])] fun S=>agR<|dM _ _<|ag9 fun _ iI=>agS fun _ jf=>adr S 3 [.mem 0 0] [(4,.func (.func 161) #[] #[]),(6,.i m.w)] fun S=>aiL S 7 (GX m.w _) fun ac S=>Sx.oQ S 27 [.mem 0 1,.mem 0 0,.mem 0 1,.mem 0 2,.mem 0 0,.mem 0 1] [(_,_,(!(!(side m.w))),.bool (side m.h))] [(34,.bool ((((!(side m.w))||(!(side m.h)))||(decide (65536<(IntKind.i64.wrap (m.w*m.h)))))||(((m.l.length:Int)) != (IntKind.i64.wrap (m.w*m.h)))))] ⟨fun u hC g=>ag6 (GX m.h _),trivial⟩ fun ac u E8 S=>agR (jf _ _ ?_);refine agU S (fun hc9=>?_) (fun hc9=>?_)
 ·refine agS fun _ gI=>adr S 1 [] [(2,.bool false)] fun S=>agR<|gI _ _<|agV S Tryz.results138 ?_;exact⟨aI (ZY (GR▸hc9)),S.E⟩
 refine aha<|iI _ _<|agS fun _ dB=>adr S 2 [.mem 0 2] [(36,.slice a m.l.length cap)] fun S=>ag0 S 37 (GV (hq.below S.E)) fun ac u vV S=>adr S 2 [] [(2,.bool (!(!(m.l.all aO.valid))))] fun S=>agR<|dB _ _<|agV S Tryz.results138 ?_;exact⟨aI (WE (GR▸hc9)),S.E⟩
theorem qx{w:World}{m n:dA}(h:m.ok w)(h':n.ok w) :
  Calls Tryz.prog 109 #[m.v,n.v] w fun e w'=>e = .returned (.bool (m.eq n))∧Ext w w':=by
 skip;refine agX Tryz.func109 Tryz.ntmps109 fun ac S=>agS fun _ aX=>agT S 2 m.cells fun ac u b2 E3 hb4 S=>agT S 3 n.cells fun ac u b5 E6 hb7 S=>adr S 1 [] [(4,.bool false)] fun S=>agR<|aX _ _<|agS fun _ dU=>Sx.oQ S 20 [.mem 1 0,.mem 0 0,.mem 1 1,.mem 0 1,.mem 1 2,.mem 0 2] [(_,_,(((m.w)==n.w)&&((m.h)==n.h)),.bool (m.l=n.l))] [(4,.bool ((((m.w)==n.w)&&((m.h)==n.h))&&(decide (m.l=n.l))))] ⟨fun u hC g=>OE (h.2.2.below (Ext.trans' S.E hC)) (h'.2.2.below (Ext.trans' S.E hC)),trivial⟩ fun ac u E9 S=>agR<|dU _ _<|agV S Tryz.results109 ?_;exact⟨aI Z4,S.E⟩
theorem CJ{w:World}{v:Value}{l:List iR}(h:aK 5 iR.cells w v l) :
  Calls Tryz.prog 238 #[v] w fun e w'=>e = .returned (.bool (ig l))∧Ext w w':=by
 obtain⟨a,cap,rfl⟩:=h.shape;have hmax:l.length≤9223372036854775807:=h.len;refine agX Tryz.func238 Tryz.ntmps238 fun ac S=>agS fun _ aX=>adr S 1 [] [(2,.bool false)] fun S=>agR<|aX _ _<|ag9 fun _ fH=>agS fun _ jK=>adr S 8 [] [(13,.bool ((decide ((l.length:Int)<1))||(decide (16<(l.length:Int)))))] fun S=>agR (jK _ _ ?_);refine agU S (fun hc4=>?_) (fun hc4=>?_)
 ·refine agS fun _ dM=>adr S 1 [] [(2,.bool false)] fun S=>agR<|dM _ _<|agV S Tryz.results238 ?_;exact⟨aI (OJ hc4),S.E⟩
 refine aha<|fH _ _<|agS fun _ iI=>adr S 1 [] [(3,.i 0)] fun S=>agR<|iI _ _<|ag9 fun _ jf=>agS fun _ dU=>adr S 3 [] [(14,.slice a l.length cap),(15,.i l.length),(16,.i 0)] fun S=>agR<|dU _ _<|ahc ?_;refine ahJ (ι:=Nat×Int) (fun p a' w'=>p.1≤l.length∧(eF 0 l=eF p.2 (l.drop p.1))∧Sx.St w a' w' 32 [(0,.slice a l.length cap),(2,.bool false),(3,.i p.2),(14,.slice a l.length cap),(15,.i l.length),(16,.i p.1)] [] []) (fun p=>l.length-p.1) (0,0) ⟨ahk _,rfl,S.sn⟩ ?_;rintro⟨k,last⟩ ac u hI;try dsimp only at hI
 obtain⟨hk,hR,S⟩:=hI;refine agS fun _ iP=>adr S 1 [] [(17,.bool ((k:Int)<(l.length:Int)))] fun S=>agR<|iP _ _<|ag9 (fun _ gI=>?_);refine agU S (fun jc=>?_) (fun jc=>?_)
 ·refine aha<|gI _ _<|ag9 fun _ dP=>ahc<|agS (fun _ gX=>?_);have jJ:k<l.length:=by have:=aho jc; omega
  obtain⟨b14,Wu,rfl,x20,nZ,xO,zN⟩:=ahx h (fun _=>rfl) (k) jJ;have S:=S.view0 xO zN;refine adr S 2 [.idx k l.length,.mem 0 0] [(19,.agg x20.cells.toArray)] (hk:=⟨jJ,trivial⟩) fun S=>agT S 5 [.i 0,.int .u8 0,.int .u8 0,.int .u8 0,.int .u8 0] fun ac u b22 LK OO S=>agW S 0 (off:=0) (cs:=x20.cells) rfl fun u OQ S=>agR<|gX _ _<|ag9 fun _ oN=>agS fun _ qg=>adr S 9 [.mem 0 0,.mem 0 0] [(28,.bool ((decide (x20.o<last))||(decide (65536<x20.o))))] fun S=>agR (qg _ _ ?_);refine agU S (fun hc28=>?_) (fun hc28=>?_)
  ·refine agS fun _ yX=>adr S 1 [] [(2,.bool false)] fun S=>agR<|yX _ _<|agV S Tryz.results238 ?_;exact⟨aI (OM hc4 jJ hR (by rw[nZ]; exact hc28)),S.E⟩
  refine aha<|oN _ _<|ahi<|adr S 3 [.mem 0 0] [(3,.i x20.o)] fun S=>agR<|dP _ _<|ahi<|adr S 2 [.re 31 (.i (IntKind.i64.wrap ((k:Int)+1))) (.i (k+1:Nat))] [(16,.i (k+1:Nat))] (hk:=⟨ag7 (by omega),trivial⟩) fun S=>agR ?_;show ∃i',_∧_;exact⟨((k+1),x20.o),⟨by omega,(by rw[←nZ]; exact JI jJ hR (by rw[nZ]; exact hc28)),(S.sub [(0,.slice (some ⟨b14,Wu,none⟩) l.length cap),(2,.bool false),(3,.i x20.o),(14,.slice (some ⟨b14,Wu,none⟩) l.length cap),(15,.i l.length),(16,.i (k+1:Nat))]).tu.nD 1⟩,by show _-_<_-_; omega⟩
 refine ahn<|jf _ _<|agS fun _ qX=>adr S 1 [] [(2,.bool true)] fun S=>agR<|qX _ _<|agV S Tryz.results238 ?_;exact⟨aI (OL hc4 (by have:=aht jc; omega) hR),S.E⟩
theorem RQ(n:Int)(w:World) :
  Calls Tryz.prog 136 #[.i n] w fun e w'=>e = .returned (.bool (decide (1≤n)&&decide (n≤13)))∧w=w':=by
 skip;refine agX Tryz.func136 Tryz.ntmps136 fun ac S=>agS fun _ aX=>adr S 1 [] [(2,.bool false)] fun S=>agR<|aX _ _<|agS fun _ fH=>adr S 7 [] [(2,.bool ((decide (1≤n))&&(decide (n≤13))))] fun S=>agR<|fH _ _<|agV S Tryz.results136 ?_;exact⟨rfl,rfl⟩
theorem zW(n:Int)(w:World) :
  Calls Tryz.prog 217 #[.i n] w fun e w'=>e = .returned (.bool (iF n))∧w=w':=by
 skip;refine agX Tryz.func217 Tryz.ntmps217 fun ac S=>agS fun _ aX=>adr S 1 [] [(2,.bool false)] fun S=>agR<|aX _ _<|agS fun _ fH=>adr S 7 [] [(2,.bool ((decide (1≤n))&&(decide (n≤3))))] fun S=>agR<|fH _ _<|agV S Tryz.results217 ?_;exact⟨rfl,rfl⟩
theorem RS(n:Int)(w:World) :
  Calls Tryz.prog 188 #[.i n] w fun e w'=>e = .returned (.bool (decide (1≤n)&&decide (n≤16384)))∧w=w':=by
 skip;refine agX Tryz.func188 Tryz.ntmps188 fun ac S=>agS fun _ aX=>adr S 1 [] [(2,.bool false)] fun S=>agR<|aX _ _<|agS fun _ fH=>adr S 7 [] [(2,.bool ((decide (1≤n))&&(decide (n≤16384))))] fun S=>agR<|fH _ _<|agV S Tryz.results188 ?_;exact⟨rfl,rfl⟩
open Go.RowKit
variable{α:Type}
def lV(l s:List Int):Option Bool:=if s.all (fun x=>decide (0≤x)&&decide (x≤1048576))then some (((l.length:Int)==0)||s.any (fun x=>decide (0<x)))else none
def rM(l:List Int):Bool:=l.all (fun x=>decide (0≤x)&&decide (x≤1048576))&&((((((l.length:Int)==0)||l.any (fun x=>decide (0<x)))&&((Int.tmod (l.length:Int) 2)==0))&&(decide ((l.length:Int)≤16))))
theorem OT(l:List Int):lV l (l.take 0)=some ((l.length:Int)==0):=by simp[lV]
theorem OU{l:List Int}{k:Nat}{any:Bool}(hk:k<l.length)(hR:lV l (l.take k)=some any)(hb:((decide (l[k]<0))||(decide (1048576<l[k])))=false):lV l (l.take (k+1))=some (any||(decide (0<l[k]))):=by
 unfold lV at hR ⊢;rw[ahM hk,List.all_append,List.any_append];simp only[ah5,aiu]at hb;split at hR
 ·rename_i h;obtain rfl:=ahl hR;rw[h];simp[show 0≤l[k] by omega,show l[k]≤1048576 by omega,Bool.or_assoc]
 cases hR
theorem RU{l:List Int}{k:Nat}{any:Bool}(hk:k<l.length)(hR:lV l (l.take k)=some any)(hb:((decide (l[k]<0))||(decide (1048576<l[k])))=true):false=rM l:=by
 simp only[Bool.or_eq_true,ahK]at hb;unfold rM;rw[ED hk (by simp; omega)]; rfl
theorem RV{l:List Int}{k:Nat}{any:Bool}(hk:l.length≤k)(hR:lV l (l.take k)=some any):((any&&((Int.tmod (l.length:Int) 2)==0))&&(decide ((l.length:Int)≤16)))=rM l:=by
 unfold lV at hR;rw[ahV hk]at hR;split at hR
 ·rename_i h;obtain rfl:=ahl hR;unfold rM;rw[h]; rfl
 cases hR
def bI(b:Bool)(n:Int):Value:=if b=true then .iface 185 (.agg #[.i n,.nilIface])else .nilIface
theorem OV{b:Bool}{n:Int}{x:Operand}:∀w,(do eqGuard .neq 182 x (.const .nilIface) (bI b n) .nilIface; binOp .neq 182 (bI b n) .nilIface:Sem Value).run Tryz.prog w = .ok (.bool (!(!b))) w:=fun w=>by
 cases b<;>simp[bI,go_sem]
def iZ:List (Bool×Int)→Value
 | [] => .nilIface
 | p::l=>if p.1=true then .iface 185 (.agg #[.i 0,.iface 185 (.agg #[.i p.2,.nilIface])])else iZ l
theorem JM{w:World}{v:Value}{l:List Int}(h:bU OA w v l) :
  Calls Tryz.prog 189 #[v] w fun e w'=>e = .returned (.bool (rM l))∧Ext w w':=by
 obtain⟨a,cap,rfl⟩:=(mY h).shape;have hmax:l.length≤9223372036854775807:=(mY h).len;refine agX Tryz.func189 Tryz.ntmps189 fun ac S=>agS fun _ aX=>adr S 1 [] [(2,.bool false)] fun S=>agR<|aX _ _<|agS fun _ fH=>adr S 4 [] [(3,.bool (((l.length:Int))==0))] fun S=>agR<|fH _ _<|ag9 fun _ jK=>agS fun _ uQ=>adr S 3 [] [(9,.slice a l.length cap),(10,.i l.length),(11,.i 0)] fun S=>agR<|uQ _ _<|ahc ?_;refine ahJ (ι:=Nat×Bool) (fun p a' w'=>p.1≤l.length∧(lV l (l.take p.1)=some p.2)∧Sx.St w a' w' 39 [(0,.slice a l.length cap),(2,.bool false),(3,.bool p.2),(9,.slice a l.length cap),(10,.i l.length),(11,.i p.1)] [] []) (fun p=>l.length-p.1) (0,((l.length:Int)==0)) ⟨ahk _,OT l,S.sn⟩ ?_;rintro⟨k,any⟩ ac u hI;try dsimp only at hI
 obtain⟨hk,hR,S⟩:=hI;refine agS fun _ dM=>adr S 1 [] [(12,.bool ((k:Int)<(l.length:Int)))] fun S=>agR<|dM _ _<|ag9 (fun _ iI=>?_);refine agU S (fun zX=>?_) (fun zX=>?_)
 ·refine aha<|iI _ _<|ag9 fun _ dU=>ahc<|agS (fun _ iP=>?_);have pG:k<l.length:=by have:=aho zX; omega
  obtain⟨b10,o11,rfl,x16,uZ,JL,EH⟩:=ahx (mY h) (fun _=>rfl) (k) pG;have S:=S.view0 JL EH;refine adr S 3 [.idx k l.length,.mem 0 0] [(5,.i x16)] (hk:=⟨pG,trivial⟩) fun S=>agR<|iP _ _<|ag9 fun _ jE=>agS fun _ kX=>adr S 6 [] [(20,.bool ((decide (x16<0))||(decide (1048576<x16))))] fun S=>agR (kX _ _ ?_);refine agU S (fun JO=>?_) (fun JO=>?_)
  ·refine agS fun _ nV=>adr S 1 [] [(2,.bool false)] fun S=>agR<|nV _ _<|agV S Tryz.results189 ?_;exact⟨aI (RU pG hR (by rw[uZ]; exact JO)),S.E⟩
  refine aha<|jE _ _<|ahi<|adr S 6 [] [(3,.bool (any||(decide (0<x16))))] fun S=>agR<|dU _ _<|ahi<|adr S 2 [.re 26 (.i (IntKind.i64.wrap ((k:Int)+1))) (.i (k+1:Nat))] [(11,.i (k+1:Nat))] (hk:=⟨ag7 (by omega),trivial⟩) fun S=>agR ?_;show ∃i',_∧_;exact⟨((k+1),any||(decide (0<x16))),⟨by omega,(by rw[←uZ]; exact OU pG hR (by rw[uZ]; exact JO)),S.sn⟩,by show _-_<_-_; omega⟩
 refine ahn<|jK _ _<|agS fun _ nX=>adr S 13 [] [(2,.bool ((any&&(((Int.tmod (l.length:Int) 2))==0))&&(decide ((l.length:Int)≤16))))] fun S=>agR<|nX _ _<|agV S Tryz.results189 ?_;exact⟨aI (RV (by have:=aht zX; omega) hR),S.E⟩
def aV.valid(p:aV):Bool:=(((((((decide (1≤p.width)&&decide (p.width≤16384))&&((((p.join)==1)||((p.join)==2))||((p.join)==3)))&&((((p.cap)==3)||((p.cap)==4))||((p.cap)==5)))&&(decide (256≤p.fZ)))&&(decide (p.fZ≤65536)))&&(rM p.dash))&&(decide (0≤p.phase)))&&(decide (p.phase≤1048576))
def aV.eq(p q:aV):Bool:=((((((p.width)==q.width)&&((p.join)==q.join))&&((p.cap)==q.cap))&&((p.fZ)==q.fZ))&&((p.phase)==q.phase))&&(decide (p.dash=q.dash))
theorem OW{w:World}{p:aV}(h:p.ok w) :
  Calls Tryz.prog 159 #[p.v] w fun e w'=>e = .returned (.bool p.valid)∧Ext w w':=by
 skip;refine agX Tryz.func159 Tryz.ntmps159 fun ac S=>agS fun _ aX=>agT S 1 p.cells fun ac u b2 E3 hb4 S=>adr S 1 [] [(2,.bool false)] fun S=>agR<|aX _ _<|agS fun _ dM=>adr S 14 [.mem 0 1,.mem 0 1,.mem 0 1] [(3,.bool ((((p.join)==1)||((p.join)==2))||((p.join)==3)))] fun S=>agR<|dM _ _<|agS fun _ iI=>adr S 14 [.mem 0 2,.mem 0 2,.mem 0 2] [(4,.bool ((((p.cap)==3)||((p.cap)==4))||((p.cap)==5)))] fun S=>agR<|iI _ _<|agS fun _ jf=>adr S 2 [.mem 0 0] [(32,.i p.width)] fun S=>aiL S 33 (RS p.width _) fun ac S=>Sx.oQ S 32 [.mem 0 3,.mem 0 3,.mem 0 4,.mem 0 5,.mem 0 5] [(_,_,(((((decide (1≤p.width)&&decide (p.width≤16384))&&((((p.join)==1)||((p.join)==2))||((p.join)==3)))&&((((p.cap)==3)||((p.cap)==4))||((p.cap)==5)))&&(decide (256≤p.fZ)))&&(decide (p.fZ≤65536))),.bool (rM p.dash))] [(2,.bool ((((((((decide (1≤p.width)&&decide (p.width≤16384))&&((((p.join)==1)||((p.join)==2))||((p.join)==3)))&&((((p.cap)==3)||((p.cap)==4))||((p.cap)==5)))&&(decide (256≤p.fZ)))&&(decide (p.fZ≤65536)))&&(rM p.dash))&&(decide (0≤p.phase)))&&(decide (p.phase≤1048576))))] ⟨fun u hC g=>JM (h.2.2.2.2.1.below (Ext.trans' S.E hC)),trivial⟩ fun ac u E8 S=>agR<|jf _ _<|agV S Tryz.results159 ?_;exact⟨rfl,S.E⟩
theorem rO{w:World}{p q:aV}(h:p.ok w)(h':q.ok w) :
  Calls Tryz.prog 108 #[p.v,q.v] w fun e w'=>e = .returned (.bool (p.eq q))∧Ext w w':=by
 skip;refine agX Tryz.func108 Tryz.ntmps108 fun ac S=>agS fun _ aX=>agT S 2 p.cells fun ac u b2 E3 hb4 S=>agT S 3 q.cells fun ac u b5 E6 hb7 S=>adr S 1 [] [(4,.bool false)] fun S=>agR<|aX _ _<|agS fun _ dU=>Sx.oQ S 41 [.mem 1 0,.mem 0 0,.mem 1 1,.mem 0 1,.mem 1 2,.mem 0 2,.mem 1 3,.mem 0 3,.mem 1 5,.mem 0 5,.mem 1 4,.mem 0 4] [(_,_,((((((p.width)==q.width)&&((p.join)==q.join))&&((p.cap)==q.cap))&&((p.fZ)==q.fZ))&&((p.phase)==q.phase)),.bool (p.dash=q.dash))] [(4,.bool (((((((p.width)==q.width)&&((p.join)==q.join))&&((p.cap)==q.cap))&&((p.fZ)==q.fZ))&&((p.phase)==q.phase))&&(decide (p.dash=q.dash))))] ⟨fun u hC g=>OG (mY (h.2.2.2.2.1.below (Ext.trans' S.E hC))) (mY (h'.2.2.2.2.1.below (Ext.trans' S.E hC))),trivial⟩ fun ac u E9 S=>agR<|dU _ _<|agV S Tryz.results108 ?_;exact⟨rfl,S.E⟩
theorem GY(n:Int)(w:World) :
  Calls Tryz.prog 129 #[.i n] w fun e w'=>e = .returned (.bool ((n==1)||(n==2)))∧w=w':=by
 skip;refine agX Tryz.func129 Tryz.ntmps129 fun ac S=>agS fun _ aX=>adr S 1 [] [(2,.bool false)] fun S=>agR<|aX _ _<|agS fun _ fH=>adr S 7 [] [(2,.bool (((n)==1)||((n)==2)))] fun S=>agR<|fH _ _<|agV S Tryz.results129 ?_;exact⟨rfl,rfl⟩
theorem gq(b:Bool)(n:Int)(w:World) :
  Calls Tryz.prog 131 #[.bool b,.i n] w fun e w'=>e = .returned (bI b n)∧w=w':=by
 skip;refine agX Tryz.func131 Tryz.ntmps131 fun ac S=>agS fun _ aX=>adr S 1 [] [(4,.nilIface)] fun S=>agR<|aX _ _<|ag9 fun _ fH=>agS fun _ jK=>adr S 2 [] [(6,.bool (!b))] fun S=>agR (jK _ _ ?_);refine agU S (fun hc4=>?_) (fun hc4=>?_)
 ·refine agS fun _ dM=>adr S 1 [] [(4,.nilIface)] fun S=>agR<|dM _ _<|agV S Tryz.results131 ?_;obtain rfl:b=false:=by simpa using hc4
  exact⟨rfl,rfl⟩
 refine aha<|fH _ _<|agS fun _ iI=>adr S 4 [] [(4,.iface 185 (.agg #[.i n,.nilIface]))] fun S=>agR<|iI _ _<|agV S Tryz.results131 ?_;obtain rfl:b=true:=by simpa using hc4
 exact⟨rfl,rfl⟩
theorem first_any{w:World}{v:Value}{l:List (Bool×Int)}(h:aK 1 (fun p=>[bI p.1 p.2]) w v l) :
  Calls Tryz.prog 130 #[v] w fun e w'=>e = .returned (iZ l)∧Ext w w':=by
 obtain⟨a,cap,rfl⟩:=h.shape;have hmax:l.length≤9223372036854775807:=h.len;refine agX Tryz.func130 Tryz.ntmps130 fun ac S=>agS fun _ aX=>adr S 1 [] [(2,.nilIface)] fun S=>agR<|aX _ _<|ag9 fun _ fH=>agS fun _ jK=>adr S 3 [] [(5,.slice a l.length cap),(6,.i l.length),(7,.i 0)] fun S=>agR<|jK _ _<|ahc ?_;refine ahJ (ι:=Nat) (fun p a' w'=>p≤l.length∧(iZ l=iZ (l.drop p))∧Sx.St w a' w' 17 [(0,.slice a l.length cap),(2,.nilIface),(5,.slice a l.length cap),(6,.i l.length),(7,.i p)] [] []) (fun p=>l.length-p) (0) ⟨ahk _,rfl,S.sn⟩ ?_;rintro k ac u hI;try dsimp only at hI
 obtain⟨hk,hR,S⟩:=hI;refine agS fun _ uQ=>adr S 1 [] [(8,.bool ((k:Int)<(l.length:Int)))] fun S=>agR<|uQ _ _<|ag9 (fun _ dM=>?_);refine agU S (fun hc6=>?_) (fun hc6=>?_)
 ·refine aha<|dM _ _<|ag9 fun _ jf=>ahc<|agS (fun _ dU=>?_);have WG:k<l.length:=by have:=aho hc6; omega
  obtain⟨b9,o10,rfl,x15,ab7,hb16,Z7⟩:=ahx h (fun _=>rfl) (k) WG;have S:=S.view0 hb16 Z7;refine adr S 3 [.idx k l.length,.mem 0 0] [(4,bI x15.1 x15.2)] (hk:=⟨WG,trivial⟩) fun S=>agR<|dU _ _<|agS fun _ iC=>adr S 2 [.cmp .neq 182 (.tmp 11) (.const .nilIface) (bI x15.1 x15.2) .nilIface (.bool (!(!x15.1)))] [(12,.bool (!(!x15.1)))] (hk:=⟨OV,trivial⟩) fun S=>agR (iC _ _ ?_);refine agU S (fun hc18=>?_) (fun hc18=>?_)
  ·have hb:x15.1=true:=by simpa using hc18
   rw[show bI x15.1 x15.2 = .iface 185 (.agg #[.i x15.2,.nilIface])from ahf hb]at S;refine agS fun _ kX=>adr S 4 [] [(2,.iface 185 (.agg #[.i 0,.iface 185 (.agg #[.i x15.2,.nilIface])]))] fun S=>agR<|kX _ _<|agV S Tryz.results130 ?_;exact⟨by rw[hR,ahU WG,ab7,iZ,ahf hb],S.E⟩
  refine aha<|jf _ _<|ahi<|adr S 2 [.re 16 (.i (IntKind.i64.wrap ((k:Int)+1))) (.i (k+1:Nat))] [(7,.i (k+1:Nat))] (hk:=⟨ag7 (by omega),trivial⟩) fun S=>agR ?_;show ∃i',_∧_;exact⟨(k+1),⟨by omega,(by rw[hR,ahU WG,ab7,iZ,ahe (by simpa using hc18)]),S.sn⟩,by show _-_<_-_; omega⟩
 refine ahn<|fH _ _<|agS fun _ kH=>adr S 1 [] [(2,.nilIface)] fun S=>agR<|kH _ _<|agV S Tryz.results130 ?_;exact⟨by rw[hR,aic (by have:=aht hc6; omega)]; rfl,S.E⟩
end Go.Proofs.YtiafijffnejhoaaGreatDoor
