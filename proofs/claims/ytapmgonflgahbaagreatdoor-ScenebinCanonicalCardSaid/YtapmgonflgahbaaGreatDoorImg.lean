/- slices.Equal of the rows that nodes hold. -/
import Derived.Test.YtapmgonflgahbaaGreatDoorPath
set_option linter.unusedVariables false
set_option maxHeartbeats 1600000
set_option maxRecDepth 100000
namespace Go.Proofs.YtapmgonflgahbaaGreatDoor
open _root_.Go.Proofs.Tryz
open Go.RowKit
variable{α:Type}
theorem aH{a b:Bool}(h:a=b):Ending.returned (.bool a) = .returned (.bool b):=by rw[h]
theorem nC [DecidableEq α]{l m:List α}(h:((l.length:Int) != (m.length:Int))=true):false=decide (l=m):=by
 have h1:l≠m:=fun e=>by subst e; simp at h
 simp[h1]
theorem lT{l m:List α}(h:((l.length:Int) != (m.length:Int))=false):l.length=m.length:=by simp at h; omega
theorem rW [DecidableEq α]{l m:List α}{k:Nat}(hk:l.length≤k)(h:l.length=m.length)(hR:l.take k=m.take k):true=decide (l=m):=by
 rw[awP hk,awP (by omega)]at hR; simp[hR]
theorem rV [DecidableEq α]{l m:List α}{k:Nat}(h1:k<l.length)(h2:k<m.length)(h:l[k]≠m[k]):false=decide (l=m):=by
 have h1:l≠m:=fun e=>by subst e; exact h rfl
 simp[h1]
theorem nD{l m:List α}{k:Nat}(h1:k<l.length)(h2:k<m.length)(hR:l.take k=m.take k)(h:l[k]=m[k]):l.take (k+1)=m.take (k+1):=by
 rw[axp h1,axp h2,hR,h]
theorem aaS{x y:dO}(h:(!((x.verb==y.verb)&&((x.a.x==y.a.x)&&((x.a.y==y.a.y)&&((x.b.x==y.b.x)&&((x.b.y==y.b.y)&&((x.c.x==y.c.x)&&(x.c.y==y.c.y))))))))=false):x=y:=by
 obtain⟨v,⟨a,b⟩,⟨c,d⟩,⟨e,f⟩⟩:=x;obtain⟨v',⟨a',b'⟩,⟨c',d'⟩,⟨e',f'⟩⟩:=y;simp at h ⊢; omega
theorem FD{a b:UInt8}(h:(a.toNat:Int)=(b.toNat:Int)):a=b:=ayk.1 (by omega)
theorem SI{x y:bW}(h:(!(((x.r.toNat:Int)==y.r.toNat)&&(((x.g.toNat:Int)==y.g.toNat)&&(((x.b.toNat:Int)==y.b.toNat)&&((x.a.toNat:Int)==y.a.toNat)))))=false):x=y:=by
 obtain⟨a,b,c,d⟩:=x;obtain⟨a',b',c',d'⟩:=y;simp only[axE,awC,awE]at h;rw[FD h.1,FD h.2.1,FD h.2.2.1,FD h.2.2.2]
theorem Vt{x y:dM}(h:(!((x.o==y.o)&&(((x.c.r.toNat:Int)==y.c.r.toNat)&&(((x.c.g.toNat:Int)==y.c.g.toNat)&&(((x.c.b.toNat:Int)==y.c.b.toNat)&&((x.c.a.toNat:Int)==y.c.a.toNat))))))=false):x=y:=by
 obtain⟨o,c⟩:=x;obtain⟨o',c'⟩:=y;simp only[axE,awC,awE]at h;have:c=c':=SI (by simp only[axE,awC,awE]; exact h.2);rw[h.1,this]
theorem aaW{x y:Int}(h:(x != y)=false):x=y:=by simpa using h
theorem XR{w:World}{v u:Value}{l m:List dO}(h:aO 7 dO.cells w v l)(h':aO 7 dO.cells w u m) :
  Calls prog 133 #[v,u] w fun e w'=>e = .returned (.bool (l=m))∧Ext w w':=by
 obtain⟨a,cap,rfl⟩:=h.shape;obtain⟨d,cap',rfl⟩:=h'.shape;have hmax:l.length≤9223372036854775807:=h.len;refine avU func133 ntmps133 fun ac S=>avP fun _ aV=>adr S 1 [] [(4,.z)] fun S=>apB<|aV _ _<|awg fun _ fK=>avP fun _ jC=>adr S 5 [] [(10,.bool (((l.length:Int)) != (m.length:Int)))] fun S=>apB (jC _ _ ?_);refine avR S (fun hc4=>?_) (fun hc4=>?_)
 ·refine avP fun _ dA=>adr S 1 [] [(4,.z)] fun S=>apB<|dA _ _<|avS S results133 ?_;exact⟨aH (nC hc4),S.E⟩
 refine awh<|fK _ _<|awg fun _ jq=>avP fun _ jr=>adr S 3 [] [(12,.i l.length),(13,.i 0)] fun S=>apB<|jr _ _<|awi ?_;refine awS (ι:=Nat) (fun p a' w'=>p≤l.length∧(l.take p=m.take p)∧Sx.St w a' w' 26 [(0,.slice a l.length cap),(1,.slice d m.length cap'),(4,.z),(12,.i l.length),(13,.i p)] [] []) (fun p=>l.length-p) (0) ⟨awt _,rfl,S.sn⟩ ?_;rintro k ac u hI;try dsimp only at hI
 obtain⟨hk,hR,S⟩:=hI;refine avP fun _ dS=>adr S 1 [] [(14,.bool ((k:Int)<(l.length:Int)))] fun S=>apB<|dS _ _<|awg (fun _ ig=>?_);refine avR S (fun dR=>?_) (fun dR=>?_)
 ·refine awh<|ig _ _<|awg fun _ eG=>awi<|avP fun _ dV=>adr S 2 [] [(5,.i k)] fun S=>apB<|dV _ _<|awg (fun _ gW=>?_);have vF:k<l.length:=by have:=awz dR; omega
  obtain⟨b15,o16,rfl,x21,FH,Tc,La⟩:=awN h (fun _=>rfl) (k) vF;have S:=S.view0 Tc La;have vG:k<m.length:=by have:=lT hc4; have:=awz dR; omega
  obtain⟨b23,o24,rfl,y29,hx27,Td,Tf⟩:=awN h' (fun _=>rfl) (k) vG;have S:=S.view0 Td Tf;refine av3 S 9 [.idx k l.length,.mem 1 0,.idx k m.length,.mem 0 0,.cmp .neq 138 (.tmp 19) (.tmp 23) (.agg #[.i x21.verb,.i x21.a.x,.i x21.a.y,.i x21.b.x,.i x21.b.y,.i x21.c.x,.i x21.c.y]) (.agg #[.i y29.verb,.i y29.a.x,.i y29.a.y,.i y29.b.x,.i y29.b.y,.i y29.c.x,.i y29.c.y]) (.bool (!((x21.verb==y29.verb)&&((x21.a.x==y29.a.x)&&((x21.a.y==y29.a.y)&&((x21.b.x==y29.b.x)&&((x21.b.y==y29.b.y)&&((x21.c.x==y29.c.x)&&(x21.c.y==y29.c.y)))))))))] [] [(24,.bool (!((x21.verb==y29.verb)&&((x21.a.x==y29.a.x)&&((x21.a.y==y29.a.y)&&((x21.b.x==y29.b.x)&&((x21.b.y==y29.b.y)&&((x21.c.x==y29.c.x)&&(x21.c.y==y29.c.y)))))))))] trivial (hk:=⟨vF,vG,awe (fun _=>agk ..) (by kernel_rfl),trivial⟩) fun ac u Dj S=>apB (gW _ _ ?_);refine avR S (fun hc31=>?_) (fun hc31=>?_)
  ·refine avP fun _ jM=>adr S 1 [] [(4,.z)] fun S=>apB<|jM _ _<|avS S results133 ?_;exact⟨aH (rV vF vG (fun e=>by have hq:=hc31; rw[FH,hx27]at e; subst e; simp at hq)),S.E⟩
  refine awh<|eG _ _<|awk<|adr S 2 [.re 25 (.i (IntKind.i64.wrap ((k:Int)+1))) (.i (k+1:Nat))] [(13,.i (k+1:Nat))] (hk:=⟨av5 (by omega),trivial⟩) fun S=>apB ?_;show ∃i',_∧_;exact⟨(k+1),⟨by omega,(nD vF vG hR (by rw[FH,hx27]; exact aaS hc31)),S.sn⟩,by show _-_<_-_; omega⟩
 refine awy<|jq _ _<|avP fun _ jO=>adr S 1 [] [(4,.bool true)] fun S=>apB<|jO _ _<|avS S results133 ?_;exact⟨aH (rW (by have:=awG dR; omega) (lT hc4) hR),S.E⟩
theorem Ti{w:World}{v u:Value}{l m:List dM}(h:aO 5 dM.cells w v l)(h':aO 5 dM.cells w u m) :
  Calls prog 134 #[v,u] w fun e w'=>e = .returned (.bool (l=m))∧Ext w w':=by
 obtain⟨a,cap,rfl⟩:=h.shape;obtain⟨d,cap',rfl⟩:=h'.shape;have hmax:l.length≤9223372036854775807:=h.len;refine avU func134 ntmps134 fun ac S=>avP fun _ aV=>adr S 1 [] [(4,.z)] fun S=>apB<|aV _ _<|awg fun _ fK=>avP fun _ jC=>adr S 5 [] [(10,.bool (((l.length:Int)) != (m.length:Int)))] fun S=>apB (jC _ _ ?_);refine avR S (fun hc4=>?_) (fun hc4=>?_)
 ·refine avP fun _ dA=>adr S 1 [] [(4,.z)] fun S=>apB<|dA _ _<|avS S results134 ?_;exact⟨aH (nC hc4),S.E⟩
 refine awh<|fK _ _<|awg fun _ jq=>avP fun _ jr=>adr S 3 [] [(12,.i l.length),(13,.i 0)] fun S=>apB<|jr _ _<|awi ?_;refine awS (ι:=Nat) (fun p a' w'=>p≤l.length∧(l.take p=m.take p)∧Sx.St w a' w' 26 [(0,.slice a l.length cap),(1,.slice d m.length cap'),(4,.z),(12,.i l.length),(13,.i p)] [] []) (fun p=>l.length-p) (0) ⟨awt _,rfl,S.sn⟩ ?_;rintro k ac u hI;try dsimp only at hI
 obtain⟨hk,hR,S⟩:=hI;refine avP fun _ dS=>adr S 1 [] [(14,.bool ((k:Int)<(l.length:Int)))] fun S=>apB<|dS _ _<|awg (fun _ ig=>?_);refine avR S (fun dR=>?_) (fun dR=>?_)
 ·refine awh<|ig _ _<|awg fun _ eG=>awi<|avP fun _ dV=>adr S 2 [] [(5,.i k)] fun S=>apB<|dV _ _<|awg (fun _ gW=>?_);have vF:k<l.length:=by have:=awz dR; omega
  obtain⟨b15,o16,rfl,x21,FH,Tc,La⟩:=awN h (fun _=>rfl) (k) vF;have S:=S.view0 Tc La;have vG:k<m.length:=by have:=lT hc4; have:=awz dR; omega
  obtain⟨b23,o24,rfl,y29,hx27,Td,Tf⟩:=awN h' (fun _=>rfl) (k) vG;have S:=S.view0 Td Tf;refine av3 S 9 [.idx k l.length,.mem 1 0,.idx k m.length,.mem 0 0,.cmp .neq 189 (.tmp 19) (.tmp 23) (.agg #[.i x21.o,.u (x21.c.r.toNat:Int),.u (x21.c.g.toNat:Int),.u (x21.c.b.toNat:Int),.u (x21.c.a.toNat:Int)]) (.agg #[.i y29.o,.u (y29.c.r.toNat:Int),.u (y29.c.g.toNat:Int),.u (y29.c.b.toNat:Int),.u (y29.c.a.toNat:Int)]) (.bool (!((x21.o==y29.o)&&(((x21.c.r.toNat:Int)==(y29.c.r.toNat:Int))&&(((x21.c.g.toNat:Int)==(y29.c.g.toNat:Int))&&(((x21.c.b.toNat:Int)==(y29.c.b.toNat:Int))&&((x21.c.a.toNat:Int)==(y29.c.a.toNat:Int))))))))] [] [(24,.bool (!((x21.o==y29.o)&&(((x21.c.r.toNat:Int)==(y29.c.r.toNat:Int))&&(((x21.c.g.toNat:Int)==(y29.c.g.toNat:Int))&&(((x21.c.b.toNat:Int)==(y29.c.b.toNat:Int))&&((x21.c.a.toNat:Int)==(y29.c.a.toNat:Int))))))))] trivial (hk:=⟨vF,vG,awe (fun _=>aaT ..) (by kernel_rfl),trivial⟩) fun ac u Dj S=>apB (gW _ _ ?_);refine avR S (fun hc31=>?_) (fun hc31=>?_)
  ·refine avP fun _ jM=>adr S 1 [] [(4,.z)] fun S=>apB<|jM _ _<|avS S results134 ?_;exact⟨aH (rV vF vG (fun e=>by have hq:=hc31; rw[FH,hx27]at e; subst e; simp at hq)),S.E⟩
  refine awh<|eG _ _<|awk<|adr S 2 [.re 25 (.i (IntKind.i64.wrap ((k:Int)+1))) (.i (k+1:Nat))] [(13,.i (k+1:Nat))] (hk:=⟨av5 (by omega),trivial⟩) fun S=>apB ?_;show ∃i',_∧_;exact⟨(k+1),⟨by omega,(nD vF vG hR (by rw[FH,hx27]; exact Vt hc31)),S.sn⟩,by show _-_<_-_; omega⟩
 refine awy<|jq _ _<|avP fun _ jO=>adr S 1 [] [(4,.bool true)] fun S=>apB<|jO _ _<|avS S results134 ?_;exact⟨aH (rW (by have:=awG dR; omega) (lT hc4) hR),S.E⟩
theorem XT{w:World}{v u:Value}{l m:List bW}(h:aO 4 bW.cells w v l)(h':aO 4 bW.cells w u m) :
  Calls prog 136 #[v,u] w fun e w'=>e = .returned (.bool (l=m))∧Ext w w':=by
 obtain⟨a,cap,rfl⟩:=h.shape;obtain⟨d,cap',rfl⟩:=h'.shape;have hmax:l.length≤9223372036854775807:=h.len;refine avU func136 ntmps136 fun ac S=>avP fun _ aV=>adr S 1 [] [(4,.z)] fun S=>apB<|aV _ _<|awg fun _ fK=>avP fun _ jC=>adr S 5 [] [(10,.bool (((l.length:Int)) != (m.length:Int)))] fun S=>apB (jC _ _ ?_);refine avR S (fun hc4=>?_) (fun hc4=>?_)
 ·refine avP fun _ dA=>adr S 1 [] [(4,.z)] fun S=>apB<|dA _ _<|avS S results136 ?_;exact⟨aH (nC hc4),S.E⟩
 refine awh<|fK _ _<|awg fun _ jq=>avP fun _ jr=>adr S 3 [] [(12,.i l.length),(13,.i 0)] fun S=>apB<|jr _ _<|awi ?_;refine awS (ι:=Nat) (fun p a' w'=>p≤l.length∧(l.take p=m.take p)∧Sx.St w a' w' 26 [(0,.slice a l.length cap),(1,.slice d m.length cap'),(4,.z),(12,.i l.length),(13,.i p)] [] []) (fun p=>l.length-p) (0) ⟨awt _,rfl,S.sn⟩ ?_;rintro k ac u hI;try dsimp only at hI
 obtain⟨hk,hR,S⟩:=hI;refine avP fun _ dS=>adr S 1 [] [(14,.bool ((k:Int)<(l.length:Int)))] fun S=>apB<|dS _ _<|awg (fun _ ig=>?_);refine avR S (fun dR=>?_) (fun dR=>?_)
 ·refine awh<|ig _ _<|awg fun _ eG=>awi<|avP fun _ dV=>adr S 2 [] [(5,.i k)] fun S=>apB<|dV _ _<|awg (fun _ gW=>?_);have vF:k<l.length:=by have:=awz dR; omega
  obtain⟨b15,o16,rfl,x21,FH,Tc,La⟩:=awN h (fun _=>rfl) (k) vF;have S:=S.view0 Tc La;have vG:k<m.length:=by have:=lT hc4; have:=awz dR; omega
  obtain⟨b23,o24,rfl,y29,hx27,Td,Tf⟩:=awN h' (fun _=>rfl) (k) vG;have S:=S.view0 Td Tf;refine av3 S 9 [.idx k l.length,.mem 1 0,.idx k m.length,.mem 0 0,.cmp .neq 192 (.tmp 19) (.tmp 23) (.agg #[.u (x21.r.toNat:Int),.u (x21.g.toNat:Int),.u (x21.b.toNat:Int),.u (x21.a.toNat:Int)]) (.agg #[.u (y29.r.toNat:Int),.u (y29.g.toNat:Int),.u (y29.b.toNat:Int),.u (y29.a.toNat:Int)]) (.bool (!(((x21.r.toNat:Int)==(y29.r.toNat:Int))&&(((x21.g.toNat:Int)==(y29.g.toNat:Int))&&(((x21.b.toNat:Int)==(y29.b.toNat:Int))&&((x21.a.toNat:Int)==(y29.a.toNat:Int)))))))] [] [(24,.bool (!(((x21.r.toNat:Int)==(y29.r.toNat:Int))&&(((x21.g.toNat:Int)==(y29.g.toNat:Int))&&(((x21.b.toNat:Int)==(y29.b.toNat:Int))&&((x21.a.toNat:Int)==(y29.a.toNat:Int)))))))] trivial (hk:=⟨vF,vG,awe (fun _=>agl ..) (by kernel_rfl),trivial⟩) fun ac u Dj S=>apB (gW _ _ ?_);refine avR S (fun hc31=>?_) (fun hc31=>?_)
  ·refine avP fun _ jM=>adr S 1 [] [(4,.z)] fun S=>apB<|jM _ _<|avS S results136 ?_;exact⟨aH (rV vF vG (fun e=>by have hq:=hc31; rw[FH,hx27]at e; subst e; simp at hq)),S.E⟩
  refine awh<|eG _ _<|awk<|adr S 2 [.re 25 (.i (IntKind.i64.wrap ((k:Int)+1))) (.i (k+1:Nat))] [(13,.i (k+1:Nat))] (hk:=⟨av5 (by omega),trivial⟩) fun S=>apB ?_;show ∃i',_∧_;exact⟨(k+1),⟨by omega,(nD vF vG hR (by rw[FH,hx27]; exact SI hc31)),S.sn⟩,by show _-_<_-_; omega⟩
 refine awy<|jq _ _<|avP fun _ jO=>adr S 1 [] [(4,.bool true)] fun S=>apB<|jO _ _<|avS S results136 ?_;exact⟨aH (rW (by have:=awG dR; omega) (lT hc4) hR),S.E⟩
theorem XU{w:World}{v u:Value}{l m:List Int}(h:aO 1 (fun x=>[OC x]) w v l)(h':aO 1 (fun x=>[OC x]) w u m) :
  Calls prog 135 #[v,u] w fun e w'=>e = .returned (.bool (l=m))∧Ext w w':=by
 obtain⟨a,cap,rfl⟩:=h.shape;obtain⟨d,cap',rfl⟩:=h'.shape;have hmax:l.length≤9223372036854775807:=h.len;refine avU func135 ntmps135 fun ac S=>avP fun _ aV=>adr S 1 [] [(4,.z)] fun S=>apB<|aV _ _<|awg fun _ fK=>avP fun _ jC=>adr S 5 [] [(10,.bool (((l.length:Int)) != (m.length:Int)))] fun S=>apB (jC _ _ ?_);refine avR S (fun hc4=>?_) (fun hc4=>?_)
 ·refine avP fun _ dA=>adr S 1 [] [(4,.z)] fun S=>apB<|dA _ _<|avS S results135 ?_;exact⟨aH (nC hc4),S.E⟩
 refine awh<|fK _ _<|awg fun _ jq=>avP fun _ jr=>adr S 3 [] [(12,.i l.length),(13,.i 0)] fun S=>apB<|jr _ _<|awi ?_;refine awS (ι:=Nat) (fun p a' w'=>p≤l.length∧(l.take p=m.take p)∧Sx.St w a' w' 26 [(0,.slice a l.length cap),(1,.slice d m.length cap'),(4,.z),(12,.i l.length),(13,.i p)] [] []) (fun p=>l.length-p) (0) ⟨awt _,rfl,S.sn⟩ ?_;rintro k ac u hI;try dsimp only at hI
 obtain⟨hk,hR,S⟩:=hI;refine avP fun _ dS=>adr S 1 [] [(14,.bool ((k:Int)<(l.length:Int)))] fun S=>apB<|dS _ _<|awg (fun _ ig=>?_);refine avR S (fun dR=>?_) (fun dR=>?_)
 ·refine awh<|ig _ _<|awg fun _ eG=>awi<|avP fun _ dV=>adr S 2 [] [(5,.i k)] fun S=>apB<|dV _ _<|awg (fun _ gW=>?_);have vF:k<l.length:=by have:=awz dR; omega
  obtain⟨b15,o16,rfl,x21,FH,Tc,La⟩:=awN h (fun _=>rfl) (k) vF;have S:=S.view0 Tc La;have vG:k<m.length:=by have:=lT hc4; have:=awz dR; omega
  obtain⟨b23,o24,rfl,y29,hx27,Td,Tf⟩:=awN h' (fun _=>rfl) (k) vG;have S:=S.view0 Td Tf;refine av3 S 9 [.idx k l.length,.mem 1 0,.idx k m.length,.mem 0 0] [] [(24,.bool ((x21) != y29))] trivial (hk:=⟨vF,vG,trivial⟩) fun ac u Dj S=>apB (gW _ _ ?_);refine avR S (fun hc31=>?_) (fun hc31=>?_)
  ·refine avP fun _ jM=>adr S 1 [] [(4,.z)] fun S=>apB<|jM _ _<|avS S results135 ?_;exact⟨aH (rV vF vG (fun e=>by have hq:=hc31; rw[FH,hx27]at e; subst e; simp at hq)),S.E⟩
  refine awh<|eG _ _<|awk<|adr S 2 [.re 25 (.i (IntKind.i64.wrap ((k:Int)+1))) (.i (k+1:Nat))] [(13,.i (k+1:Nat))] (hk:=⟨av5 (by omega),trivial⟩) fun S=>apB ?_;show ∃i',_∧_;exact⟨(k+1),⟨by omega,(nD vF vG hR (by rw[FH,hx27]; exact aaW hc31)),S.sn⟩,by show _-_<_-_; omega⟩
 refine awy<|jq _ _<|avP fun _ jO=>adr S 1 [] [(4,.bool true)] fun S=>apB<|jO _ _<|avS S results135 ?_;exact⟨aH (rW (by have:=awG dR; omega) (lT hc4) hR),S.E⟩
open Go.RowKit
variable{α:Type}
theorem XV(p:bW):(((min (p.r.toNat:Int) (p.a.toNat:Int))==(p.r.toNat:Int))&&(((min (p.g.toNat:Int) (p.a.toNat:Int))==(p.g.toNat:Int))&&(((min (p.b.toNat:Int) (p.a.toNat:Int))==(p.b.toNat:Int))&&((min (p.a.toNat:Int) (p.a.toNat:Int))==(p.a.toNat:Int)))))=p.valid:=by
 have h:∀x y:UInt8,((min (x.toNat:Int) (y.toNat:Int))==(x.toNat:Int))=decide (x≤y):=by
  intro x y; rw[axA]; simp only[awE,awL,UInt8.le_iff_toNat_le]; omega
 rw[h,h,h,h]; unfold bW.valid; simp
theorem rY{l:List α}{k:Nat}{p:α→Bool}(hk:l.length≤k)(h:(l.take k).all p=true):l.all p=true:=by rwa [awP hk]at h
theorem Aw{l:List α}{k:Nat}{p:α→Bool}(hk:k<l.length)(h:p l[k]=false):l.all p=false:=by
 rw[List.all_eq_false]; exact⟨l[k],awT hk,by simp[h]⟩
theorem pF{l:List α}{k:Nat}{p:α→Bool}(hk:k<l.length)(hR:(l.take k).all p=true)(h:p l[k]=true):(l.take (k+1)).all p=true:=by
 rw[axp hk,List.all_append,hR]; simp[h]
theorem XW{a b:Int}(ha:side a=true)(hb:side b=true):IntKind.i64.wrap (a*b)=a*b:=by
 simp only[side,awC,awL]at ha hb;have h1:a*b≤4096*4096:=Int.le_trans (Int.mul_le_mul_of_nonneg_right ha.2 (by omega)) (Int.mul_le_mul_of_nonneg_left hb.2 (by omega));have h0:0≤a*b:=Int.mul_nonneg (by omega) (by omega);rw[IntKind.wrap_i64]; omega
theorem OJ{m:dL}:((((!(side m.w))||(!(side m.h)))||(decide (65536<IntKind.i64.wrap (m.w*m.h))))||((m.l.length:Int) != IntKind.i64.wrap (m.w*m.h)))=((((!(side m.w))||(!(side m.h)))||(decide (65536<(m.w*m.h))))||((m.l.length:Int) != (m.w*m.h))):=by
 cases ha:side m.w<;>cases hb:side m.h<;>simp only[Bool.not_false,Bool.not_true,Bool.true_or,Bool.false_or,Bool.or_true];rw[XW ha hb]
theorem ahN{m:dL}(h:((((!(side m.w))||(!(side m.h)))||(decide (65536<(m.w*m.h))))||((m.l.length:Int) != (m.w*m.h)))=true):false=m.valid:=by
 unfold dL.valid dL.size;revert h;cases side m.w<;>cases side m.h<;>simp;intro h h1 h2; omega
theorem aev{m:dL}(h:((((!(side m.w))||(!(side m.h)))||(decide (65536<(m.w*m.h))))||((m.l.length:Int) != (m.w*m.h)))=false):(!(!(m.l.all bW.valid)))=m.valid:=by
 unfold dL.valid dL.size;revert h;cases side m.w<;>cases side m.h<;>simp;intro h h1; rw[h1]; simp[h]
theorem ahO{m n:dL}:((m.w==n.w)&&(m.h==n.h)&&decide (m.l=n.l))=m.eq n:=by
 unfold dL.eq;rw[Bool.and_assoc];by_cases h:m.l=n.l<;>simp[h]
theorem XY{l:List dM}(h:((decide ((l.length:Int)<1))||(decide (16<(l.length:Int))))=true):false=jl l:=by
 unfold jl;simp only[ayc,awL]at h;rcases h with h | h
 ·rw[ax0 (by omega)]; rfl
 rw[ax0 (p:=l.length≤16) (by omega)]; simp
theorem OL{l:List dM}(h:((decide ((l.length:Int)<1))||(decide (16<(l.length:Int))))=false):jl l=gX 0 l:=by
 unfold jl;simp only[aw9,axw]at h;rw[axg (p:=1≤l.length) (by omega),axg (p:=l.length≤16) (by omega)]; rfl
theorem XZ{l:List dM}{k:Nat}{last:Int}(h:((decide ((l.length:Int)<1))||(decide (16<(l.length:Int))))=false)(hk:l.length≤k)(hR:gX 0 l=gX last (l.drop k)):true=jl l:=by
 rw[OL h,hR,axR hk]; rfl
theorem X0{l:List dM}{k:Nat}{last:Int}(h:((decide ((l.length:Int)<1))||(decide (16<(l.length:Int))))=false)(hk:k<l.length)(hR:gX 0 l=gX last (l.drop k))(hb:((decide (l[k].o<last))||(decide (65536<l[k].o)))=true):false=jl l:=by
 rw[OL h,hR,axz hk,gX];simp only[ayc,awL]at hb;rcases hb with hb | hb
 ·rw[ax0 (by omega)]; rfl
 rw[ax0 (p:=l[k].o≤65536) (by omega)]; simp
theorem Tj{l:List dM}{k:Nat}{last:Int}(hk:k<l.length)(hR:gX 0 l=gX last (l.drop k))(hb:((decide (l[k].o<last))||(decide (65536<l[k].o)))=false):gX 0 l=gX l[k].o (l.drop (k+1)):=by
 rw[hR,axz hk,gX];simp only[aw9,axw]at hb;rw[axg (p:=last≤l[k].o) (by omega),axg (p:=l[k].o≤65536) (by omega)]; rfl
theorem vH{w:World}{b:Nat}(p:bW)(x:Int)(hx:Bx w b #[.u (p.r.toNat:Int),.u (p.g.toNat:Int),.u (p.b.toNat:Int),.u (p.a.toNat:Int)]) :
  Calls prog 325 #[.u x,.q b 0] w fun e w'=>e = .returned (.u (min x (p.a.toNat:Int)))∧w=w':=by
 skip;refine avU func325 ntmps325 (fun ac S=>?_);have S:=S.view0 hx.1 (hx.range 0 4 rfl);refine avP fun _ aV=>adr S 1 [] [(3,.u 0)] fun S=>apB<|aV _ _<|avP fun _ fK=>adr S 5 [.mem 0 3,.re 7 (.u (if (p.a.toNat:Int)<x then (p.a.toNat:Int)else x)) (.u (min x (p.a.toNat:Int)))] [(3,.u (min x (p.a.toNat:Int)))] (hk:=⟨Sx.ahP,trivial⟩) fun S=>apB<|fK _ _<|avS S results325 ?_;exact⟨rfl,rfl⟩
theorem aa9{w:World}{b:Nat}(p:bW)(hx:Bx w b #[.u (p.r.toNat:Int),.u (p.g.toNat:Int),.u (p.b.toNat:Int),.u (p.a.toNat:Int)]) :
  Calls prog 324 #[.agg #[.u (p.r.toNat:Int),.u (p.g.toNat:Int),.u (p.b.toNat:Int),.u (p.a.toNat:Int)],.func (.func 325) #[] #[.q b 0]] w fun e w'=>e = .returned (.agg #[.u (min (p.r.toNat:Int) (p.a.toNat:Int)),.u (min (p.g.toNat:Int) (p.a.toNat:Int)),.u (min (p.b.toNat:Int) (p.a.toNat:Int)),.u (min (p.a.toNat:Int) (p.a.toNat:Int))])∧Ext w w':=by
 skip;refine avU func324 ntmps324 (fun ac S=>?_);have S:=S.view0 hx.1 (hx.range 0 4 rfl);refine avP fun _ aV=>avQ S 2 p.cells fun ac u b2 E3 hb4 S=>avQ S 4 [.u 0,.u 0,.u 0,.u 0] fun ac u b5 E6 hb7 S=>apB<|aV _ _<|awg fun _ dS=>av3 S 17 [.mem 1 0,.mem 1 1,.mem 1 2,.mem 1 3] [(_,_,true,.u (min (p.r.toNat:Int) (p.a.toNat:Int))),(_,_,true,.u (min (p.g.toNat:Int) (p.a.toNat:Int))),(_,_,true,.u (min (p.b.toNat:Int) (p.a.toNat:Int))),(_,_,true,.u (min (p.a.toNat:Int) (p.a.toNat:Int)))] [(21,.agg #[.u (min (p.r.toNat:Int) (p.a.toNat:Int)),.u (min (p.g.toNat:Int) (p.a.toNat:Int)),.u (min (p.b.toNat:Int) (p.a.toNat:Int)),.u (min (p.a.toNat:Int) (p.a.toNat:Int))])] ⟨fun u hC g=>av8 (vH p (p.r.toNat:Int) (hx.ext (Ext.trans' S.E hC))),fun u hC g=>av8 (vH p (p.g.toNat:Int) (hx.ext (Ext.trans' S.E hC))),fun u hC g=>av8 (vH p (p.b.toNat:Int) (hx.ext (Ext.trans' S.E hC))),fun u hC g=>av8 (vH p (p.a.toNat:Int) (hx.ext (Ext.trans' S.E hC))),trivial⟩ fun ac u E9 S=>avT S 0 (off:=0) (cs:=[.u (min (p.r.toNat:Int) (p.a.toNat:Int)),.u (min (p.g.toNat:Int) (p.a.toNat:Int)),.u (min (p.b.toNat:Int) (p.a.toNat:Int)),.u (min (p.a.toNat:Int) (p.a.toNat:Int))]) rfl fun u C10 S=>apB<|dS _ _<|awd S 0 results324 rfl (v := .agg #[.u (min (p.r.toNat:Int) (p.a.toNat:Int)),.u (min (p.g.toNat:Int) (p.a.toNat:Int)),.u (min (p.b.toNat:Int) (p.a.toNat:Int)),.u (min (p.a.toNat:Int) (p.a.toNat:Int))]) ?_;exact⟨rfl,S.E⟩
theorem Tm(p:bW)(w:World) :
  Calls prog 292 #[.agg #[.u (p.r.toNat:Int),.u (p.g.toNat:Int),.u (p.b.toNat:Int),.u (p.a.toNat:Int)]] w fun e w'=>e = .returned (.agg #[.u (min (p.r.toNat:Int) (p.a.toNat:Int)),.u (min (p.g.toNat:Int) (p.a.toNat:Int)),.u (min (p.b.toNat:Int) (p.a.toNat:Int)),.u (min (p.a.toNat:Int) (p.a.toNat:Int))])∧Ext w w':=by
 skip;refine avU func292 ntmps292 fun ac S=>avP fun _ aV=>avQ S 1 p.cells fun ac u b2 E3 hb4 S=>avQ S 2 [.u 0,.u 0,.u 0,.u 0] fun ac u b5 E6 hb7 S=>apB<|aV _ _<|avP fun _ dS=>adr S 2 [.mem 1 0] [(3,.agg p.cells.toArray),(4,.func (.func 325) #[] #[.q b2 0])] fun S=>avZ S 5 (aa9 p (S.bx 1)) fun ac u E9 S=>avT S 0 (off:=0) (cs:=[.u (min (p.r.toNat:Int) (p.a.toNat:Int)),.u (min (p.g.toNat:Int) (p.a.toNat:Int)),.u (min (p.b.toNat:Int) (p.a.toNat:Int)),.u (min (p.a.toNat:Int) (p.a.toNat:Int))]) rfl fun u C10 S=>apB<|dS _ _<|awd S 0 results292 rfl (v := .agg #[.u (min (p.r.toNat:Int) (p.a.toNat:Int)),.u (min (p.g.toNat:Int) (p.a.toNat:Int)),.u (min (p.b.toNat:Int) (p.a.toNat:Int)),.u (min (p.a.toNat:Int) (p.a.toNat:Int))]) ?_;exact⟨rfl,S.E⟩
theorem Lh(p:bW)(w:World) :
  Calls prog 249 #[.agg #[.u (p.r.toNat:Int),.u (p.g.toNat:Int),.u (p.b.toNat:Int),.u (p.a.toNat:Int)]] w fun e w'=>e = .returned (.bool p.valid)∧Ext w w':=by
 skip;refine avU func249 ntmps249 fun ac S=>avP fun _ aV=>avQ S 1 p.cells fun ac u b2 E3 hb4 S=>adr S 1 [] [(2,.z)] fun S=>apB<|aV _ _<|awg fun _ dA=>av3 S 4 [.mem 0 0,.mem 0 0,.cmp .eql 192 (.tmp 4) (.tmp 5) (.agg #[.u (min (p.r.toNat:Int) (p.a.toNat:Int)),.u (min (p.g.toNat:Int) (p.a.toNat:Int)),.u (min (p.b.toNat:Int) (p.a.toNat:Int)),.u (min (p.a.toNat:Int) (p.a.toNat:Int))]) (.agg #[.u (p.r.toNat:Int),.u (p.g.toNat:Int),.u (p.b.toNat:Int),.u (p.a.toNat:Int)]) (.bool (((min (p.r.toNat:Int) (p.a.toNat:Int))==(p.r.toNat:Int))&&(((min (p.g.toNat:Int) (p.a.toNat:Int))==(p.g.toNat:Int))&&(((min (p.b.toNat:Int) (p.a.toNat:Int))==(p.b.toNat:Int))&&((min (p.a.toNat:Int) (p.a.toNat:Int))==(p.a.toNat:Int))))))] [(_,_,true,.agg #[.u (min (p.r.toNat:Int) (p.a.toNat:Int)),.u (min (p.g.toNat:Int) (p.a.toNat:Int)),.u (min (p.b.toNat:Int) (p.a.toNat:Int)),.u (min (p.a.toNat:Int) (p.a.toNat:Int))])] [(6,.bool (((min (p.r.toNat:Int) (p.a.toNat:Int))==(p.r.toNat:Int))&&(((min (p.g.toNat:Int) (p.a.toNat:Int))==(p.g.toNat:Int))&&(((min (p.b.toNat:Int) (p.a.toNat:Int))==(p.b.toNat:Int))&&((min (p.a.toNat:Int) (p.a.toNat:Int))==(p.a.toNat:Int))))))] ⟨fun u hC g=>Tm p _,trivial⟩ (hk:=⟨awe (fun _=>agn ..) (by kernel_rfl),trivial⟩) fun ac u E6 S=>adr S 1 [] [(2,.bool (((min (p.r.toNat:Int) (p.a.toNat:Int))==(p.r.toNat:Int))&&(((min (p.g.toNat:Int) (p.a.toNat:Int))==(p.g.toNat:Int))&&(((min (p.b.toNat:Int) (p.a.toNat:Int))==(p.b.toNat:Int))&&((min (p.a.toNat:Int) (p.a.toNat:Int))==(p.a.toNat:Int))))))] fun S=>apB<|dA _ _<|avS S results249 ?_;exact⟨aH (XV p),S.E⟩
theorem Tn(p:bW)(w:World) :
  Calls prog 248 #[.agg #[.u (p.r.toNat:Int),.u (p.g.toNat:Int),.u (p.b.toNat:Int),.u (p.a.toNat:Int)]] w fun e w'=>e = .returned (.bool (!p.valid))∧Ext w w':=by
 skip;refine avU func248 ntmps248 fun ac S=>avP fun _ aV=>avQ S 1 p.cells fun ac u b2 E3 hb4 S=>adr S 1 [] [(2,.z)] fun S=>apB<|aV _ _<|avP fun _ dA=>adr S 1 [.mem 0 0] [(3,.agg p.cells.toArray)] fun S=>avZ S 4 (Lh p _) fun ac u E6 S=>adr S 2 [] [(2,.bool (!p.valid))] fun S=>apB<|dA _ _<|avS S results248 ?_;exact⟨rfl,S.E⟩
theorem Lj{w:World}{v:Value}{l:List bW}(h:aO 4 bW.cells w v l) :
  Calls prog 291 #[v,.func (.func 248) #[] #[]] w fun e w'=>∃z,e = .returned (.i z)∧decide (0≤z) = !(l.all bW.valid)∧Ext w w':=by
 obtain⟨a,cap,rfl⟩:=h.shape;have hmax:l.length≤9223372036854775807:=h.len;refine avU func291 ntmps291 fun ac S=>avP fun _ aV=>adr S 1 [] [(4,.i 0)] fun S=>apB<|aV _ _<|awg fun _ fK=>avP fun _ jC=>adr S 3 [] [(7,.i l.length),(8,.i 0)] fun S=>apB<|jC _ _<|awi ?_;refine awS (ι:=Nat) (fun p a' w'=>p≤l.length∧((l.take p).all bW.valid=true)∧Sx.St w a' w' 19 [(0,.slice a l.length cap),(1,.func (.func 248) #[] #[]),(4,.i 0),(7,.i l.length),(8,.i p)] [] []) (fun p=>l.length-p) (0) ⟨awt _,rfl,S.sn⟩ ?_;rintro k ac u hI;try dsimp only at hI
 obtain⟨hk,hR,S⟩:=hI;refine avP fun _ nT=>adr S 1 [] [(9,.bool ((k:Int)<(l.length:Int)))] fun S=>apB<|nT _ _<|awg (fun _ dA=>?_);refine avR S (fun hc6=>?_) (fun hc6=>?_)
 ·refine awh<|dA _ _<|awg fun _ jr=>awi<|avP fun _ dS=>adr S 2 [] [(5,.i k)] fun S=>apB<|dS _ _<|avP (fun _ ig=>?_);have uz:k<l.length:=by have:=awz hc6; omega
  obtain⟨b10,o11,rfl,x16,zG,zx,EX⟩:=awN h (fun _=>rfl) (k) uz;have S:=S.view0 zx EX;refine adr S 5 [.idx k l.length,.mem 0 0] [(11,.func (.func 248) #[] #[]),(15,.agg x16.cells.toArray)] (hk:=⟨uz,trivial⟩) fun S=>avZ S 16 (Tn x16 _) fun ac u yg S=>apB (ig _ _ ?_);refine avR S (fun hc19=>?_) (fun hc19=>?_)
  ·refine avP fun _ l9=>adr S 2 [] [(4,.i k)] fun S=>apB<|l9 _ _<|avS S results291 ?_;exact⟨_,rfl,by rw[Aw uz (by rw[zG]; simpa using hc19)]; simp,S.E⟩
  refine awh<|jr _ _<|awk<|adr S 2 [.re 18 (.i (IntKind.i64.wrap ((k:Int)+1))) (.i (k+1:Nat))] [(8,.i (k+1:Nat))] (hk:=⟨av5 (by omega),trivial⟩) fun S=>apB ?_;show ∃i',_∧_;exact⟨(k+1),⟨by omega,(pF uz hR (by rw[zG]; simpa using hc19)),S.sn⟩,by show _-_<_-_; omega⟩
 refine awy<|fK _ _<|avP fun _ oz=>adr S 1 [] [(4,.i (-1))] fun S=>apB<|oz _ _<|avS S results291 ?_;exact⟨_,rfl,by rw[rY (by have:=awG hc6; omega) hR]; rfl,S.E⟩
theorem OM{w:World}{v:Value}{l:List bW}(h:aO 4 bW.cells w v l) :
  Calls prog 247 #[v,.func (.func 248) #[] #[]] w fun e w'=>e = .returned (.bool (!(l.all bW.valid)))∧Ext w w':=by
 skip;refine avU func247 ntmps247 fun ac S=>avP fun _ aV=>adr S 1 [] [(4,.z)] fun S=>apB<|aV _ _<|avP fun _ fK=>adr S 2 [] [(5,v),(6,.func (.func 248) #[] #[])] fun S=>avV S (some 7) (Lj (h.below S.E)) ?_;rintro e u ⟨z,rfl,hz,E3⟩;refine⟨_,rfl,E3,fun ac S=>?_⟩;refine adr S 2 [] [(4,.bool (0≤z))] fun S=>apB<|fK _ _<|avS S results247 ?_;exact⟨aH hz,S.E⟩
theorem OO(n:Int)(w:World) :
  Calls prog 246 #[.i n] w fun e w'=>e = .returned (.bool (side n))∧w=w':=by
 skip;refine avU func246 ntmps246 fun ac S=>avP fun _ aV=>adr S 1 [] [(2,.z)] fun S=>apB<|aV _ _<|avP fun _ fK=>adr S 7 [] [(2,.bool ((decide (1≤n))&&(decide (n≤4096))))] fun S=>apB<|fK _ _<|avS S results246 ?_;exact⟨rfl,rfl⟩
theorem Az{w:World}{m:dL}(h:m.ok w) :
  Calls prog 193 #[m.v] w fun e w'=>e = .returned (.bool m.valid)∧Ext w w':=by
 obtain⟨a,cap,hs⟩:=h.2.2.shape;unfold dL.v;have hq:=h.2.2;rw[hs];rw[hs]at hq;refine avU func193 ntmps193 fun ac S=>avP fun _ aV=>avQ S 1 [.i m.w,.i m.h,.slice a m.l.length cap] fun ac u b2 E3 hb4 S=>adr S 1 [] [(2,.z)] fun S=>apB<|aV _ _<|avP fun _ dA=>adr S 1 [] [(3,.func (.func 246) #[] #[])] fun S=>apB<|dA _ _<|awg fun _ jq=>avP fun _ jr=>adr S 3 [.mem 0 0] [(4,.func (.func 246) #[] #[]),(6,.i m.w)] fun S=>Sx.calls S 7 (OO m.w _) fun ac S=>av9 S 27 [.mem 0 1,.mem 0 0,.mem 0 1,.mem 0 2,.mem 0 0,.mem 0 1] [(_,_,(!(!(side m.w))),.bool (side m.h))] [(34,.bool ((((!(side m.w))||(!(side m.h)))||(decide (65536<(IntKind.i64.wrap (m.w*m.h)))))||(((m.l.length:Int)) != (IntKind.i64.wrap (m.w*m.h)))))] ⟨fun u hC g=>av8 (OO m.h _),trivial⟩ fun ac u E8 S=>apB (jr _ _ ?_);refine avR S (fun NI=>?_) (fun NI=>?_)
 ·refine avP fun _ dZ=>adr S 1 [] [(2,.z)] fun S=>apB<|dZ _ _<|avS S results193 ?_;exact⟨aH (ahN (OJ▸NI)),S.E⟩
 refine awh<|jq _ _<|avP fun _ eG=>adr S 2 [.mem 0 2] [(36,.slice a m.l.length cap)] fun S=>avZ S 37 (OM (hq.below S.E)) fun ac u qN S=>adr S 2 [] [(2,.bool (!(!(m.l.all bW.valid))))] fun S=>apB<|eG _ _<|avS S results193 ?_;exact⟨aH (aev (OJ▸NI)),S.E⟩
theorem vI{w:World}{m n:dL}(h:m.ok w)(h':n.ok w) :
  Calls prog 73 #[m.v,n.v] w fun e w'=>e = .returned (.bool (m.eq n))∧Ext w w':=by
 skip;refine avU func73 ntmps73 fun ac S=>avP fun _ aV=>avQ S 2 m.cells fun ac u b2 E3 hb4 S=>avQ S 3 n.cells fun ac u b5 E6 hb7 S=>adr S 1 [] [(4,.z)] fun S=>apB<|aV _ _<|avP fun _ dS=>av9 S 20 [.mem 1 0,.mem 0 0,.mem 1 1,.mem 0 1,.mem 1 2,.mem 0 2] [(_,_,(((m.w)==n.w)&&((m.h)==n.h)),.bool (m.l=n.l))] [(4,.bool ((((m.w)==n.w)&&((m.h)==n.h))&&(decide (m.l=n.l))))] ⟨fun u hC g=>XT (h.2.2.below (Ext.trans' S.E hC)) (h'.2.2.below (Ext.trans' S.E hC)),trivial⟩ fun ac u E9 S=>apB<|dS _ _<|avS S results73 ?_;exact⟨aH ahO,S.E⟩
theorem IU{w:World}{v:Value}{l:List dM}(h:aO 5 dM.cells w v l) :
  Calls prog 346 #[v] w fun e w'=>e = .returned (.bool (jl l))∧Ext w w':=by
 obtain⟨a,cap,rfl⟩:=h.shape;have hmax:l.length≤9223372036854775807:=h.len;refine avU func346 ntmps346 fun ac S=>avP fun _ aV=>adr S 1 [] [(2,.z)] fun S=>apB<|aV _ _<|awg fun _ fK=>avP fun _ jC=>adr S 8 [] [(13,.bool ((decide ((l.length:Int)<1))||(decide (16<(l.length:Int)))))] fun S=>apB (jC _ _ ?_);refine avR S (fun hc4=>?_) (fun hc4=>?_)
 ·refine avP fun _ dA=>adr S 1 [] [(2,.z)] fun S=>apB<|dA _ _<|avS S results346 ?_;exact⟨aH (XY hc4),S.E⟩
 refine awh<|fK _ _<|avP fun _ jq=>adr S 1 [] [(3,.i 0)] fun S=>apB<|jq _ _<|awg fun _ jr=>avP fun _ dS=>adr S 3 [] [(14,.slice a l.length cap),(15,.i l.length),(16,.i 0)] fun S=>apB<|dS _ _<|awi ?_;refine awS (ι:=Nat×Int) (fun p a' w'=>p.1≤l.length∧(gX 0 l=gX p.2 (l.drop p.1))∧Sx.St w a' w' 32 [(0,.slice a l.length cap),(2,.z),(3,.i p.2),(14,.slice a l.length cap),(15,.i l.length),(16,.i p.1)] [] []) (fun p=>l.length-p.1) (0,0) ⟨awt _,rfl,S.sn⟩ ?_;rintro⟨k,last⟩ ac u hI;try dsimp only at hI
 obtain⟨hk,hR,S⟩:=hI;refine avP fun _ ig=>adr S 1 [] [(17,.bool ((k:Int)<(l.length:Int)))] fun S=>apB<|ig _ _<|awg (fun _ dZ=>?_);refine avR S (fun iT=>?_) (fun iT=>?_)
 ·refine awh<|dZ _ _<|awg fun _ dV=>awi<|avP (fun _ gW=>?_);have oC:k<l.length:=by have:=awz iT; omega
  obtain⟨b14,o15,rfl,x20,vg,xg,KT⟩:=awN h (fun _=>rfl) (k) oC;have S:=S.view0 xg KT;refine adr S 2 [.idx k l.length,.mem 0 0] [(19,.agg x20.cells.toArray)] (hk:=⟨oC,trivial⟩) fun S=>avQ S 5 [.i 0,.u 0,.u 0,.u 0,.u 0] fun ac u b22 SL aew S=>avT S 0 (off:=0) (cs:=x20.cells) rfl fun u KN S=>apB<|gW _ _<|awg fun _ jd=>avP fun _ mV=>adr S 9 [.mem 0 0,.mem 0 0] [(28,.bool ((decide (x20.o<last))||(decide (65536<x20.o))))] fun S=>apB (mV _ _ ?_);refine avR S (fun hc28=>?_) (fun hc28=>?_)
  ·refine avP fun _ pO=>adr S 1 [] [(2,.z)] fun S=>apB<|pO _ _<|avS S results346 ?_;exact⟨aH (X0 hc4 oC hR (by rw[vg]; exact hc28)),S.E⟩
  refine awh<|jd _ _<|awk<|adr S 3 [.mem 0 0] [(3,.i x20.o)] fun S=>apB<|dV _ _<|awk<|adr S 2 [.re 31 (.i (IntKind.i64.wrap ((k:Int)+1))) (.i (k+1:Nat))] [(16,.i (k+1:Nat))] (hk:=⟨av5 (by omega),trivial⟩) fun S=>apB ?_;show ∃i',_∧_;exact⟨((k+1),x20.o),⟨by omega,(by rw[←vg]; exact Tj oC hR (by rw[vg]; exact hc28)),(S.sub [(0,.slice (some ⟨b14,o15,none⟩) l.length cap),(2,.z),(3,.i x20.o),(14,.slice (some ⟨b14,o15,none⟩) l.length cap),(15,.i l.length),(16,.i (k+1:Nat))]).jI.iW 1⟩,by show _-_<_-_; omega⟩
 refine awy<|jr _ _<|avP fun _ kM=>adr S 1 [] [(2,.bool true)] fun S=>apB<|kM _ _<|avS S results346 ?_;exact⟨aH (XZ hc4 (by have:=awG iT; omega) hR),S.E⟩
theorem abb(n:Int)(w:World) :
  Calls prog 191 #[.i n] w fun e w'=>e = .returned (.bool (decide (1≤n)&&decide (n≤13)))∧w=w':=by
 skip;refine avU func191 ntmps191 fun ac S=>avP fun _ aV=>adr S 1 [] [(2,.z)] fun S=>apB<|aV _ _<|avP fun _ fK=>adr S 7 [] [(2,.bool ((decide (1≤n))&&(decide (n≤13))))] fun S=>apB<|fK _ _<|avS S results191 ?_;exact⟨rfl,rfl⟩
theorem FI(n:Int)(w:World) :
  Calls prog 323 #[.i n] w fun e w'=>e = .returned (.bool (jQ n))∧w=w':=by
 skip;refine avU func323 ntmps323 fun ac S=>avP fun _ aV=>adr S 1 [] [(2,.z)] fun S=>apB<|aV _ _<|avP fun _ fK=>adr S 7 [] [(2,.bool ((decide (1≤n))&&(decide (n≤3))))] fun S=>apB<|fK _ _<|avS S results323 ?_;exact⟨rfl,rfl⟩
theorem abd(n:Int)(w:World) :
  Calls prog 286 #[.i n] w fun e w'=>e = .returned (.bool (decide (1≤n)&&decide (n≤16384)))∧w=w':=by
 skip;refine avU func286 ntmps286 fun ac S=>avP fun _ aV=>adr S 1 [] [(2,.z)] fun S=>apB<|aV _ _<|avP fun _ fK=>adr S 7 [] [(2,.bool ((decide (1≤n))&&(decide (n≤16384))))] fun S=>apB<|fK _ _<|avS S results286 ?_;exact⟨rfl,rfl⟩
open Go.RowKit
variable{α:Type}
def qC(l s:List Int):Option Bool:=if s.all (fun x=>decide (0≤x)&&decide (x≤1048576))then some (((l.length:Int)==0)||s.any (fun x=>decide (0<x)))else none
def vJ(l:List Int):Bool:=l.all (fun x=>decide (0≤x)&&decide (x≤1048576))&&((((((l.length:Int)==0)||l.any (fun x=>decide (0<x)))&&((Int.tmod (l.length:Int) 2)==0))&&(decide ((l.length:Int)≤16))))
theorem X3(l:List Int):qC l (l.take 0)=some ((l.length:Int)==0):=by simp[qC]
theorem X4{l:List Int}{k:Nat}{any:Bool}(hk:k<l.length)(hR:qC l (l.take k)=some any)(hb:((decide (l[k]<0))||(decide (1048576<l[k])))=false):qC l (l.take (k+1))=some (any||(decide (0<l[k]))):=by
 unfold qC at hR ⊢;rw[axp hk,List.all_append,List.any_append];simp only[aw9,axw]at hb;split at hR
 ·rename_i h;obtain rfl:=awx hR;rw[h];simp[show 0≤l[k] by omega,show l[k]≤1048576 by omega,Bool.or_assoc]
 cases hR
theorem abe{l:List Int}{k:Nat}{any:Bool}(hk:k<l.length)(hR:qC l (l.take k)=some any)(hb:((decide (l[k]<0))||(decide (1048576<l[k])))=true):false=vJ l:=by
 simp only[ayc,awL]at hb;unfold vJ;rw[Aw hk (by simp; omega)]; rfl
theorem abf{l:List Int}{k:Nat}{any:Bool}(hk:l.length≤k)(hR:qC l (l.take k)=some any):((any&&((Int.tmod (l.length:Int) 2)==0))&&(decide ((l.length:Int)≤16)))=vJ l:=by
 unfold qC at hR;rw[awP hk]at hR;split at hR
 ·rename_i h;obtain rfl:=awx hR;unfold vJ;rw[h]; rfl
 cases hR
def dG(b:Bool)(n:Int):Value:=if b=true then .iface 180 (.agg #[.i n,.nilIface])else .nilIface
theorem X5{b:Bool}{n:Int}{x:Operand}:∀w,(do eqGuard .neq 177 x (.const .nilIface) (dG b n) .nilIface; binOp .neq 177 (dG b n) .nilIface:Sem Value).run prog w = .ok (.bool (!(!b))) w:=fun w=>by
 cases b<;>simp[dG,go_sem]
def kP:List (Bool×Int)→Value
 | [] => .nilIface
 | p::l=>if p.1=true then .iface 180 (.agg #[.i 0,.iface 180 (.agg #[.i p.2,.nilIface])])else kP l
theorem Tq{w:World}{v:Value}{l:List Int}(h:dB OC w v l) :
  Calls prog 287 #[v] w fun e w'=>e = .returned (.bool (vJ l))∧Ext w w':=by
 obtain⟨a,cap,rfl⟩:=(qR h).shape;have hmax:l.length≤9223372036854775807:=(qR h).len;refine avU func287 ntmps287 fun ac S=>avP fun _ aV=>adr S 1 [] [(2,.z)] fun S=>apB<|aV _ _<|avP fun _ fK=>adr S 4 [] [(3,.bool (((l.length:Int))==0))] fun S=>apB<|fK _ _<|awg fun _ jC=>avP fun _ nT=>adr S 3 [] [(9,.slice a l.length cap),(10,.i l.length),(11,.i 0)] fun S=>apB<|nT _ _<|awi ?_;refine awS (ι:=Nat×Bool) (fun p a' w'=>p.1≤l.length∧(qC l (l.take p.1)=some p.2)∧Sx.St w a' w' 39 [(0,.slice a l.length cap),(2,.z),(3,.bool p.2),(9,.slice a l.length cap),(10,.i l.length),(11,.i p.1)] [] []) (fun p=>l.length-p.1) (0,((l.length:Int)==0)) ⟨awt _,X3 l,S.sn⟩ ?_;rintro⟨k,any⟩ ac u hI;try dsimp only at hI
 obtain⟨hk,hR,S⟩:=hI;refine avP fun _ dA=>adr S 1 [] [(12,.bool ((k:Int)<(l.length:Int)))] fun S=>apB<|dA _ _<|awg (fun _ jq=>?_);refine avR S (fun oL=>?_) (fun oL=>?_)
 ·refine awh<|jq _ _<|awg fun _ dS=>awi<|avP (fun _ ig=>?_);have uz:k<l.length:=by have:=awz oL; omega
  obtain⟨b10,o11,rfl,x16,zG,zx,EX⟩:=awN (qR h) (fun _=>rfl) (k) uz;have S:=S.view0 zx EX;refine adr S 3 [.idx k l.length,.mem 0 0] [(5,.i x16)] (hk:=⟨uz,trivial⟩) fun S=>apB<|ig _ _<|awg fun _ iZ=>avP fun _ lY=>adr S 6 [] [(20,.bool ((decide (x16<0))||(decide (1048576<x16))))] fun S=>apB (lY _ _ ?_);refine avR S (fun uY=>?_) (fun uY=>?_)
  ·refine avP fun _ oz=>adr S 1 [] [(2,.z)] fun S=>apB<|oz _ _<|avS S results287 ?_;exact⟨aH (abe uz hR (by rw[zG]; exact uY)),S.E⟩
  refine awh<|iZ _ _<|awk<|adr S 6 [] [(3,.bool (any||(decide (0<x16))))] fun S=>apB<|dS _ _<|awk<|adr S 2 [.re 26 (.i (IntKind.i64.wrap ((k:Int)+1))) (.i (k+1:Nat))] [(11,.i (k+1:Nat))] (hk:=⟨av5 (by omega),trivial⟩) fun S=>apB ?_;show ∃i',_∧_;exact⟨((k+1),any||(decide (0<x16))),⟨by omega,(by rw[←zG]; exact X4 uz hR (by rw[zG]; exact uY)),S.sn⟩,by show _-_<_-_; omega⟩
 refine awy<|jC _ _<|avP fun _ jm=>adr S 13 [] [(2,.bool ((any&&(((Int.tmod (l.length:Int) 2))==0))&&(decide ((l.length:Int)≤16))))] fun S=>apB<|jm _ _<|avS S results287 ?_;exact⟨aH (abf (by have:=awG oL; omega) hR),S.E⟩
def aZ.valid(p:aZ):Bool:=(((((((decide (1≤p.width)&&decide (p.width≤16384))&&((((p.join)==1)||((p.join)==2))||((p.join)==3)))&&((((p.cap)==3)||((p.cap)==4))||((p.cap)==5)))&&(decide (256≤p.fM)))&&(decide (p.fM≤65536)))&&(vJ p.dash))&&(decide (0≤p.phase)))&&(decide (p.phase≤1048576))
def aZ.eq(p q:aZ):Bool:=((((((p.width)==q.width)&&((p.join)==q.join))&&((p.cap)==q.cap))&&((p.fM)==q.fM))&&((p.phase)==q.phase))&&(decide (p.dash=q.dash))
theorem X6{w:World}{p:aZ}(h:p.ok w) :
  Calls prog 244 #[p.v] w fun e w'=>e = .returned (.bool p.valid)∧Ext w w':=by
 skip;refine avU func244 ntmps244 fun ac S=>avP fun _ aV=>avQ S 1 p.cells fun ac u b2 E3 hb4 S=>adr S 1 [] [(2,.z)] fun S=>apB<|aV _ _<|avP fun _ dA=>adr S 14 [.mem 0 1,.mem 0 1,.mem 0 1] [(3,.bool ((((p.join)==1)||((p.join)==2))||((p.join)==3)))] fun S=>apB<|dA _ _<|avP fun _ jq=>adr S 14 [.mem 0 2,.mem 0 2,.mem 0 2] [(4,.bool ((((p.cap)==3)||((p.cap)==4))||((p.cap)==5)))] fun S=>apB<|jq _ _<|avP fun _ jr=>adr S 2 [.mem 0 0] [(32,.i p.width)] fun S=>Sx.calls S 33 (abd p.width _) fun ac S=>av9 S 32 [.mem 0 3,.mem 0 3,.mem 0 4,.mem 0 5,.mem 0 5] [(_,_,(((((decide (1≤p.width)&&decide (p.width≤16384))&&((((p.join)==1)||((p.join)==2))||((p.join)==3)))&&((((p.cap)==3)||((p.cap)==4))||((p.cap)==5)))&&(decide (256≤p.fM)))&&(decide (p.fM≤65536))),.bool (vJ p.dash))] [(2,.bool ((((((((decide (1≤p.width)&&decide (p.width≤16384))&&((((p.join)==1)||((p.join)==2))||((p.join)==3)))&&((((p.cap)==3)||((p.cap)==4))||((p.cap)==5)))&&(decide (256≤p.fM)))&&(decide (p.fM≤65536)))&&(vJ p.dash))&&(decide (0≤p.phase)))&&(decide (p.phase≤1048576))))] ⟨fun u hC g=>Tq (h.2.2.2.2.1.below (Ext.trans' S.E hC)),trivial⟩ fun ac u E8 S=>apB<|jr _ _<|avS S results244 ?_;exact⟨rfl,S.E⟩
theorem xq{w:World}{p q:aZ}(h:p.ok w)(h':q.ok w) :
  Calls prog 72 #[p.v,q.v] w fun e w'=>e = .returned (.bool (p.eq q))∧Ext w w':=by
 skip;refine avU func72 ntmps72 fun ac S=>avP fun _ aV=>avQ S 2 p.cells fun ac u b2 E3 hb4 S=>avQ S 3 q.cells fun ac u b5 E6 hb7 S=>adr S 1 [] [(4,.z)] fun S=>apB<|aV _ _<|avP fun _ dS=>av9 S 41 [.mem 1 0,.mem 0 0,.mem 1 1,.mem 0 1,.mem 1 2,.mem 0 2,.mem 1 3,.mem 0 3,.mem 1 5,.mem 0 5,.mem 1 4,.mem 0 4] [(_,_,((((((p.width)==q.width)&&((p.join)==q.join))&&((p.cap)==q.cap))&&((p.fM)==q.fM))&&((p.phase)==q.phase)),.bool (p.dash=q.dash))] [(4,.bool (((((((p.width)==q.width)&&((p.join)==q.join))&&((p.cap)==q.cap))&&((p.fM)==q.fM))&&((p.phase)==q.phase))&&(decide (p.dash=q.dash))))] ⟨fun u hC g=>XU (qR (h.2.2.2.2.1.below (Ext.trans' S.E hC))) (qR (h'.2.2.2.2.1.below (Ext.trans' S.E hC))),trivial⟩ fun ac u E9 S=>apB<|dS _ _<|avS S results72 ?_;exact⟨rfl,S.E⟩
theorem OQ(n:Int)(w:World) :
  Calls prog 184 #[.i n] w fun e w'=>e = .returned (.bool ((n==1)||(n==2)))∧w=w':=by
 skip;refine avU func184 ntmps184 fun ac S=>avP fun _ aV=>adr S 1 [] [(2,.z)] fun S=>apB<|aV _ _<|avP fun _ fK=>adr S 7 [] [(2,.bool (((n)==1)||((n)==2)))] fun S=>apB<|fK _ _<|avS S results184 ?_;exact⟨rfl,rfl⟩
theorem jf(b:Bool)(n:Int)(w:World) :
  Calls prog 186 #[.bool b,.i n] w fun e w'=>e = .returned (dG b n)∧w=w':=by
 skip;refine avU func186 ntmps186 fun ac S=>avP fun _ aV=>adr S 1 [] [(4,.nilIface)] fun S=>apB<|aV _ _<|awg fun _ fK=>avP fun _ jC=>adr S 2 [] [(6,.bool (!b))] fun S=>apB (jC _ _ ?_);refine avR S (fun hc4=>?_) (fun hc4=>?_)
 ·refine avP fun _ dA=>adr S 1 [] [(4,.nilIface)] fun S=>apB<|dA _ _<|avS S results186 ?_;obtain rfl:b=false:=by simpa using hc4
  exact⟨rfl,rfl⟩
 refine awh<|fK _ _<|avP fun _ jq=>adr S 4 [] [(4,.iface 180 (.agg #[.i n,.nilIface]))] fun S=>apB<|jq _ _<|avS S results186 ?_;obtain rfl:b=true:=by simpa using hc4
 exact⟨rfl,rfl⟩
theorem first_any{w:World}{v:Value}{l:List (Bool×Int)}(h:aO 1 (fun p=>[dG p.1 p.2]) w v l) :
  Calls prog 185 #[v] w fun e w'=>e = .returned (kP l)∧Ext w w':=by
 obtain⟨a,cap,rfl⟩:=h.shape;have hmax:l.length≤9223372036854775807:=h.len;refine avU func185 ntmps185 fun ac S=>avP fun _ aV=>adr S 1 [] [(2,.nilIface)] fun S=>apB<|aV _ _<|awg fun _ fK=>avP fun _ jC=>adr S 3 [] [(5,.slice a l.length cap),(6,.i l.length),(7,.i 0)] fun S=>apB<|jC _ _<|awi ?_;refine awS (ι:=Nat) (fun p a' w'=>p≤l.length∧(kP l=kP (l.drop p))∧Sx.St w a' w' 17 [(0,.slice a l.length cap),(2,.nilIface),(5,.slice a l.length cap),(6,.i l.length),(7,.i p)] [] []) (fun p=>l.length-p) (0) ⟨awt _,rfl,S.sn⟩ ?_;rintro k ac u hI;try dsimp only at hI
 obtain⟨hk,hR,S⟩:=hI;refine avP fun _ nT=>adr S 1 [] [(8,.bool ((k:Int)<(l.length:Int)))] fun S=>apB<|nT _ _<|awg (fun _ dA=>?_);refine avR S (fun hc6=>?_) (fun hc6=>?_)
 ·refine awh<|dA _ _<|awg fun _ jr=>awi<|avP (fun _ dS=>?_);have iC:k<l.length:=by have:=awz hc6; omega
  obtain⟨b9,o10,rfl,x15,kG,hb16,vK⟩:=awN h (fun _=>rfl) (k) iC;have S:=S.view0 hb16 vK;refine adr S 3 [.idx k l.length,.mem 0 0] [(4,dG x15.1 x15.2)] (hk:=⟨iC,trivial⟩) fun S=>apB<|dS _ _<|avP fun _ gI=>adr S 2 [.cmp .neq 177 (.tmp 11) (.const .nilIface) (dG x15.1 x15.2) .nilIface (.bool (!(!x15.1)))] [(12,.bool (!(!x15.1)))] (hk:=⟨X5,trivial⟩) fun S=>apB (gI _ _ ?_);refine avR S (fun hc18=>?_) (fun hc18=>?_)
  ·have hb:x15.1=true:=by simpa using hc18
   rw[show dG x15.1 x15.2 = .iface 180 (.agg #[.i x15.2,.nilIface])from awl hb]at S;refine avP fun _ lY=>adr S 4 [] [(2,.iface 180 (.agg #[.i 0,.iface 180 (.agg #[.i x15.2,.nilIface])]))] fun S=>apB<|lY _ _<|avS S results185 ?_;exact⟨by rw[hR,axz iC,kG,kP,awl hb],S.E⟩
  refine awh<|jr _ _<|awk<|adr S 2 [.re 16 (.i (IntKind.i64.wrap ((k:Int)+1))) (.i (k+1:Nat))] [(7,.i (k+1:Nat))] (hk:=⟨av5 (by omega),trivial⟩) fun S=>apB ?_;show ∃i',_∧_;exact⟨(k+1),⟨by omega,(by rw[hR,axz iC,kG,kP,awj (by simpa using hc18)]),S.sn⟩,by show _-_<_-_; omega⟩
 refine awy<|fK _ _<|avP fun _ l9=>adr S 1 [] [(2,.nilIface)] fun S=>apB<|l9 _ _<|avS S results185 ?_;exact⟨by rw[hR,axR (by have:=awG hc6; omega)]; rfl,S.E⟩
end Go.Proofs.YtapmgonflgahbaaGreatDoor
