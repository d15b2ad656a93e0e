/- slices.Equal of the rows that nodes hold. -/
import Derived.Test.YtfmkkemfhjkajaaGreatDoorPath
set_option linter.unusedVariables false
set_option maxHeartbeats 1600000
set_option maxRecDepth 100000
namespace Go.Proofs.YtfmkkemfhjkajaaGreatDoor
open _root_.Go.Proofs.Tryz
open Go.RowKit
variable{α:Type}
theorem aB{a b:Bool}(h:a=b):Ending.returned (.bool a) = .returned (.bool b):=by rw[h]
theorem mQ [DecidableEq α]{l m:List α}(h:((l.length:Int) != (m.length:Int))=true):false=decide (l=m):=by
 have h1:l≠m:=fun e=>by subst e; simp at h
 simp[h1]
theorem kD{l m:List α}(h:((l.length:Int) != (m.length:Int))=false):l.length=m.length:=by simp at h; omega
theorem sN [DecidableEq α]{l m:List α}{k:Nat}(hk:l.length≤k)(h:l.length=m.length)(hR:l.take k=m.take k):true=decide (l=m):=by
 rw[alJ hk,alJ (by omega)]at hR; simp[hR]
theorem sK [DecidableEq α]{l m:List α}{k:Nat}(h1:k<l.length)(h2:k<m.length)(h:l[k]≠m[k]):false=decide (l=m):=by
 have h1:l≠m:=fun e=>by subst e; exact h rfl
 simp[h1]
theorem mV{l m:List α}{k:Nat}(h1:k<l.length)(h2:k<m.length)(hR:l.take k=m.take k)(h:l[k]=m[k]):l.take (k+1)=m.take (k+1):=by
 rw[alY h1,alY h2,hR,h]
theorem ZA{x y:dY}(h:(!((x.verb==y.verb)&&((x.a.x==y.a.x)&&((x.a.y==y.a.y)&&((x.b.x==y.b.x)&&((x.b.y==y.b.y)&&((x.c.x==y.c.x)&&(x.c.y==y.c.y))))))))=false):x=y:=by
 obtain⟨v,⟨a,b⟩,⟨c,d⟩,⟨e,f⟩⟩:=x;obtain⟨v',⟨a',b'⟩,⟨c',d'⟩,⟨e',f'⟩⟩:=y;simp at h ⊢; omega
theorem Fe{a b:UInt8}(h:(a.toNat:Int)=(b.toNat:Int)):a=b:=UInt8.toNat_inj.1 (by omega)
theorem Ry{x y:dF}(h:(!(((x.r.toNat:Int)==y.r.toNat)&&(((x.g.toNat:Int)==y.g.toNat)&&(((x.b.toNat:Int)==y.b.toNat)&&((x.a.toNat:Int)==y.a.toNat)))))=false):x=y:=by
 obtain⟨a,b,c,d⟩:=x;obtain⟨a',b',c',d'⟩:=y;simp only[amL,alr,alu]at h;rw[Fe h.1,Fe h.2.1,Fe h.2.2.1,Fe h.2.2.2]
theorem UM{x y:fM}(h:(!((x.o==y.o)&&(((x.c.r.toNat:Int)==y.c.r.toNat)&&(((x.c.g.toNat:Int)==y.c.g.toNat)&&(((x.c.b.toNat:Int)==y.c.b.toNat)&&((x.c.a.toNat:Int)==y.c.a.toNat))))))=false):x=y:=by
 obtain⟨o,c⟩:=x;obtain⟨o',c'⟩:=y;simp only[amL,alr,alu]at h;have:c=c':=Ry (by simp only[amL,alr,alu]; exact h.2);rw[h.1,this]
theorem ZH{x y:Int}(h:(x != y)=false):x=y:=by simpa using h
theorem WY{w:World}{v u:Value}{l m:List dY}(h:aP 7 dY.cells w v l)(h':aP 7 dY.cells w u m) :
  Calls prog 137 #[v,u] w fun e w'=>e = .returned (.bool (l=m))∧Ext w w':=by
 obtain⟨a,cap,rfl⟩:=h.shape;obtain⟨d,cap',rfl⟩:=h'.shape;have hmax:l.length≤9223372036854775807:=h.len;refine akN func137 ntmps137 fun ac S=>akJ fun _ aS=>adr S 1 [] [(4,.bool false)] fun S=>akI<|aS _ _<|ak6 fun _ fD=>akJ fun _ iD=>adr S 5 [] [(10,.bool (((l.length:Int)) != (m.length:Int)))] fun S=>akI (iD _ _ ?_);refine akL S (fun hc4=>?_) (fun hc4=>?_)
 ·refine akJ fun _ dB=>adr S 1 [] [(4,.bool false)] fun S=>akI<|dB _ _<|akM S results137 ?_;exact⟨aB (mQ hc4),S.E⟩
 refine ak7<|fD _ _<|ak6 fun _ je=>akJ fun _ kJ=>adr S 3 [] [(12,.i l.length),(13,.i 0)] fun S=>akI<|kJ _ _<|ak8 ?_;refine alC (ι:=Nat) (fun p a' w'=>p≤l.length∧(l.take p=m.take p)∧Sx.St w a' w' 26 [(0,.slice a l.length cap),(1,.slice d m.length cap'),(4,.bool false),(12,.i l.length),(13,.i p)] [] []) (fun p=>l.length-p) (0) ⟨alg _,rfl,S.sn⟩ ?_;rintro k ac u hI;try dsimp only at hI
 obtain⟨hk,hR,S⟩:=hI;refine akJ fun _ dP=>adr S 1 [] [(14,.bool ((k:Int)<(l.length:Int)))] fun S=>akI<|dP _ _<|ak6 (fun _ iq=>?_);refine akL S (fun bV=>?_) (fun bV=>?_)
 ·refine ak7<|iq _ _<|ak6 fun _ dn=>ak8<|akJ fun _ cO=>adr S 2 [] [(5,.i k)] fun S=>akI<|cO _ _<|ak6 (fun _ gu=>?_);have uZ:k<l.length:=by have:=alj bV; omega
  obtain⟨b15,o16,rfl,x21,Fg,RN,RP⟩:=als h (fun _=>rfl) (k) uZ;have S:=S.view0 RN RP;have sF:k<m.length:=by have:=kD hc4; have:=alj bV; omega
  obtain⟨b23,o24,rfl,y29,hx27,Iy,KO⟩:=als h' (fun _=>rfl) (k) sF;have S:=S.view0 Iy KO;refine akU S 9 [.idx k l.length,.mem 1 0,.idx k m.length,.mem 0 0,.cmp .neq 62 (.tmp 19) (.tmp 23) (.agg #[.i x21.verb,.i x21.a.x,.i x21.a.y,.i x21.b.x,.i x21.b.y,.i x21.c.x,.i x21.c.y]) (.agg #[.i y29.verb,.i y29.a.x,.i y29.a.y,.i y29.b.x,.i y29.b.y,.i y29.c.x,.i y29.c.y]) (.bool (!((x21.verb==y29.verb)&&((x21.a.x==y29.a.x)&&((x21.a.y==y29.a.y)&&((x21.b.x==y29.b.x)&&((x21.b.y==y29.b.y)&&((x21.c.x==y29.c.x)&&(x21.c.y==y29.c.y)))))))))] [] [(24,.bool (!((x21.verb==y29.verb)&&((x21.a.x==y29.a.x)&&((x21.a.y==y29.a.y)&&((x21.b.x==y29.b.x)&&((x21.b.y==y29.b.y)&&((x21.c.x==y29.c.x)&&(x21.c.y==y29.c.y)))))))))] trivial (hk:=⟨uZ,sF,ak2 (fun _=>ac2 ..) (by kernel_rfl),trivial⟩) fun ac u CS S=>akI (gu _ _ ?_);refine akL S (fun hc31=>?_) (fun hc31=>?_)
  ·refine akJ fun _ kP=>adr S 1 [] [(4,.bool false)] fun S=>akI<|kP _ _<|akM S results137 ?_;exact⟨aB (sK uZ sF (fun e=>by have hq:=hc31; rw[Fg,hx27]at e; subst e; simp at hq)),S.E⟩
  refine ak7<|dn _ _<|alc<|adr S 2 [.re 25 (.i (IntKind.i64.wrap ((k:Int)+1))) (.i (k+1:Nat))] [(13,.i (k+1:Nat))] (hk:=⟨akV (by omega),trivial⟩) fun S=>akI ?_;show ∃i',_∧_;exact⟨(k+1),⟨by omega,(mV uZ sF hR (by rw[Fg,hx27]; exact ZA hc31)),S.sn⟩,by show _-_<_-_; omega⟩
 refine alk<|je _ _<|akJ fun _ oK=>adr S 1 [] [(4,.bool true)] fun S=>akI<|oK _ _<|akM S results137 ?_;exact⟨aB (sN (by have:=alo bV; omega) (kD hc4) hR),S.E⟩
theorem RQ{w:World}{v u:Value}{l m:List fM}(h:aP 5 fM.cells w v l)(h':aP 5 fM.cells w u m) :
  Calls prog 138 #[v,u] w fun e w'=>e = .returned (.bool (l=m))∧Ext w w':=by
 obtain⟨a,cap,rfl⟩:=h.shape;obtain⟨d,cap',rfl⟩:=h'.shape;have hmax:l.length≤9223372036854775807:=h.len;refine akN func138 ntmps138 fun ac S=>akJ fun _ aS=>adr S 1 [] [(4,.bool false)] fun S=>akI<|aS _ _<|ak6 fun _ fD=>akJ fun _ iD=>adr S 5 [] [(10,.bool (((l.length:Int)) != (m.length:Int)))] fun S=>akI (iD _ _ ?_);refine akL S (fun hc4=>?_) (fun hc4=>?_)
 ·refine akJ fun _ dB=>adr S 1 [] [(4,.bool false)] fun S=>akI<|dB _ _<|akM S results138 ?_;exact⟨aB (mQ hc4),S.E⟩
 refine ak7<|fD _ _<|ak6 fun _ je=>akJ fun _ kJ=>adr S 3 [] [(12,.i l.length),(13,.i 0)] fun S=>akI<|kJ _ _<|ak8 ?_;refine alC (ι:=Nat) (fun p a' w'=>p≤l.length∧(l.take p=m.take p)∧Sx.St w a' w' 26 [(0,.slice a l.length cap),(1,.slice d m.length cap'),(4,.bool false),(12,.i l.length),(13,.i p)] [] []) (fun p=>l.length-p) (0) ⟨alg _,rfl,S.sn⟩ ?_;rintro k ac u hI;try dsimp only at hI
 obtain⟨hk,hR,S⟩:=hI;refine akJ fun _ dP=>adr S 1 [] [(14,.bool ((k:Int)<(l.length:Int)))] fun S=>akI<|dP _ _<|ak6 (fun _ iq=>?_);refine akL S (fun bV=>?_) (fun bV=>?_)
 ·refine ak7<|iq _ _<|ak6 fun _ dn=>ak8<|akJ fun _ cO=>adr S 2 [] [(5,.i k)] fun S=>akI<|cO _ _<|ak6 (fun _ gu=>?_);have uZ:k<l.length:=by have:=alj bV; omega
  obtain⟨b15,o16,rfl,x21,Fg,RN,RP⟩:=als h (fun _=>rfl) (k) uZ;have S:=S.view0 RN RP;have sF:k<m.length:=by have:=kD hc4; have:=alj bV; omega
  obtain⟨b23,o24,rfl,y29,hx27,Iy,KO⟩:=als h' (fun _=>rfl) (k) sF;have S:=S.view0 Iy KO;refine akU S 9 [.idx k l.length,.mem 1 0,.idx k m.length,.mem 0 0,.cmp .neq 155 (.tmp 19) (.tmp 23) (.agg #[.i x21.o,.int .u8 (x21.c.r.toNat:Int),.int .u8 (x21.c.g.toNat:Int),.int .u8 (x21.c.b.toNat:Int),.int .u8 (x21.c.a.toNat:Int)]) (.agg #[.i y29.o,.int .u8 (y29.c.r.toNat:Int),.int .u8 (y29.c.g.toNat:Int),.int .u8 (y29.c.b.toNat:Int),.int .u8 (y29.c.a.toNat:Int)]) (.bool (!((x21.o==y29.o)&&(((x21.c.r.toNat:Int)==(y29.c.r.toNat:Int))&&(((x21.c.g.toNat:Int)==(y29.c.g.toNat:Int))&&(((x21.c.b.toNat:Int)==(y29.c.b.toNat:Int))&&((x21.c.a.toNat:Int)==(y29.c.a.toNat:Int))))))))] [] [(24,.bool (!((x21.o==y29.o)&&(((x21.c.r.toNat:Int)==(y29.c.r.toNat:Int))&&(((x21.c.g.toNat:Int)==(y29.c.g.toNat:Int))&&(((x21.c.b.toNat:Int)==(y29.c.b.toNat:Int))&&((x21.c.a.toNat:Int)==(y29.c.a.toNat:Int))))))))] trivial (hk:=⟨uZ,sF,ak2 (fun _=>ZB ..) (by kernel_rfl),trivial⟩) fun ac u CS S=>akI (gu _ _ ?_);refine akL S (fun hc31=>?_) (fun hc31=>?_)
  ·refine akJ fun _ kP=>adr S 1 [] [(4,.bool false)] fun S=>akI<|kP _ _<|akM S results138 ?_;exact⟨aB (sK uZ sF (fun e=>by have hq:=hc31; rw[Fg,hx27]at e; subst e; simp at hq)),S.E⟩
  refine ak7<|dn _ _<|alc<|adr S 2 [.re 25 (.i (IntKind.i64.wrap ((k:Int)+1))) (.i (k+1:Nat))] [(13,.i (k+1:Nat))] (hk:=⟨akV (by omega),trivial⟩) fun S=>akI ?_;show ∃i',_∧_;exact⟨(k+1),⟨by omega,(mV uZ sF hR (by rw[Fg,hx27]; exact UM hc31)),S.sn⟩,by show _-_<_-_; omega⟩
 refine alk<|je _ _<|akJ fun _ oK=>adr S 1 [] [(4,.bool true)] fun S=>akI<|oK _ _<|akM S results138 ?_;exact⟨aB (sN (by have:=alo bV; omega) (kD hc4) hR),S.E⟩
theorem WZ{w:World}{v u:Value}{l m:List dF}(h:aP 4 dF.cells w v l)(h':aP 4 dF.cells w u m) :
  Calls prog 140 #[v,u] w fun e w'=>e = .returned (.bool (l=m))∧Ext w w':=by
 obtain⟨a,cap,rfl⟩:=h.shape;obtain⟨d,cap',rfl⟩:=h'.shape;have hmax:l.length≤9223372036854775807:=h.len;refine akN func140 ntmps140 fun ac S=>akJ fun _ aS=>adr S 1 [] [(4,.bool false)] fun S=>akI<|aS _ _<|ak6 fun _ fD=>akJ fun _ iD=>adr S 5 [] [(10,.bool (((l.length:Int)) != (m.length:Int)))] fun S=>akI (iD _ _ ?_);refine akL S (fun hc4=>?_) (fun hc4=>?_)
 ·refine akJ fun _ dB=>adr S 1 [] [(4,.bool false)] fun S=>akI<|dB _ _<|akM S results140 ?_;exact⟨aB (mQ hc4),S.E⟩
 refine ak7<|fD _ _<|ak6 fun _ je=>akJ fun _ kJ=>adr S 3 [] [(12,.i l.length),(13,.i 0)] fun S=>akI<|kJ _ _<|ak8 ?_;refine alC (ι:=Nat) (fun p a' w'=>p≤l.length∧(l.take p=m.take p)∧Sx.St w a' w' 26 [(0,.slice a l.length cap),(1,.slice d m.length cap'),(4,.bool false),(12,.i l.length),(13,.i p)] [] []) (fun p=>l.length-p) (0) ⟨alg _,rfl,S.sn⟩ ?_;rintro k ac u hI;try dsimp only at hI
 obtain⟨hk,hR,S⟩:=hI;refine akJ fun _ dP=>adr S 1 [] [(14,.bool ((k:Int)<(l.length:Int)))] fun S=>akI<|dP _ _<|ak6 (fun _ iq=>?_);refine akL S (fun bV=>?_) (fun bV=>?_)
 ·refine ak7<|iq _ _<|ak6 fun _ dn=>ak8<|akJ fun _ cO=>adr S 2 [] [(5,.i k)] fun S=>akI<|cO _ _<|ak6 (fun _ gu=>?_);have uZ:k<l.length:=by have:=alj bV; omega
  obtain⟨b15,o16,rfl,x21,Fg,RN,RP⟩:=als h (fun _=>rfl) (k) uZ;have S:=S.view0 RN RP;have sF:k<m.length:=by have:=kD hc4; have:=alj bV; omega
  obtain⟨b23,o24,rfl,y29,hx27,Iy,KO⟩:=als h' (fun _=>rfl) (k) sF;have S:=S.view0 Iy KO;refine akU S 9 [.idx k l.length,.mem 1 0,.idx k m.length,.mem 0 0,.cmp .neq 122 (.tmp 19) (.tmp 23) (.agg #[.int .u8 (x21.r.toNat:Int),.int .u8 (x21.g.toNat:Int),.int .u8 (x21.b.toNat:Int),.int .u8 (x21.a.toNat:Int)]) (.agg #[.int .u8 (y29.r.toNat:Int),.int .u8 (y29.g.toNat:Int),.int .u8 (y29.b.toNat:Int),.int .u8 (y29.a.toNat:Int)]) (.bool (!(((x21.r.toNat:Int)==(y29.r.toNat:Int))&&(((x21.g.toNat:Int)==(y29.g.toNat:Int))&&(((x21.b.toNat:Int)==(y29.b.toNat:Int))&&((x21.a.toNat:Int)==(y29.a.toNat:Int)))))))] [] [(24,.bool (!(((x21.r.toNat:Int)==(y29.r.toNat:Int))&&(((x21.g.toNat:Int)==(y29.g.toNat:Int))&&(((x21.b.toNat:Int)==(y29.b.toNat:Int))&&((x21.a.toNat:Int)==(y29.a.toNat:Int)))))))] trivial (hk:=⟨uZ,sF,ak2 (fun _=>ac3 ..) (by kernel_rfl),trivial⟩) fun ac u CS S=>akI (gu _ _ ?_);refine akL S (fun hc31=>?_) (fun hc31=>?_)
  ·refine akJ fun _ kP=>adr S 1 [] [(4,.bool false)] fun S=>akI<|kP _ _<|akM S results140 ?_;exact⟨aB (sK uZ sF (fun e=>by have hq:=hc31; rw[Fg,hx27]at e; subst e; simp at hq)),S.E⟩
  refine ak7<|dn _ _<|alc<|adr S 2 [.re 25 (.i (IntKind.i64.wrap ((k:Int)+1))) (.i (k+1:Nat))] [(13,.i (k+1:Nat))] (hk:=⟨akV (by omega),trivial⟩) fun S=>akI ?_;show ∃i',_∧_;exact⟨(k+1),⟨by omega,(mV uZ sF hR (by rw[Fg,hx27]; exact Ry hc31)),S.sn⟩,by show _-_<_-_; omega⟩
 refine alk<|je _ _<|akJ fun _ oK=>adr S 1 [] [(4,.bool true)] fun S=>akI<|oK _ _<|akM S results140 ?_;exact⟨aB (sN (by have:=alo bV; omega) (kD hc4) hR),S.E⟩
theorem W9{w:World}{v u:Value}{l m:List Int}(h:aP 1 (fun x=>[yL x]) w v l)(h':aP 1 (fun x=>[yL x]) w u m) :
  Calls prog 139 #[v,u] w fun e w'=>e = .returned (.bool (l=m))∧Ext w w':=by
 obtain⟨a,cap,rfl⟩:=h.shape;obtain⟨d,cap',rfl⟩:=h'.shape;have hmax:l.length≤9223372036854775807:=h.len;refine akN func139 ntmps139 fun ac S=>akJ fun _ aS=>adr S 1 [] [(4,.bool false)] fun S=>akI<|aS _ _<|ak6 fun _ fD=>akJ fun _ iD=>adr S 5 [] [(10,.bool (((l.length:Int)) != (m.length:Int)))] fun S=>akI (iD _ _ ?_);refine akL S (fun hc4=>?_) (fun hc4=>?_)
 ·refine akJ fun _ dB=>adr S 1 [] [(4,.bool false)] fun S=>akI<|dB _ _<|akM S results139 ?_;exact⟨aB (mQ hc4),S.E⟩
 refine ak7<|fD _ _<|ak6 fun _ je=>akJ fun _ kJ=>adr S 3 [] [(12,.i l.length),(13,.i 0)] fun S=>akI<|kJ _ _<|ak8 ?_;refine alC (ι:=Nat) (fun p a' w'=>p≤l.length∧(l.take p=m.take p)∧Sx.St w a' w' 26 [(0,.slice a l.length cap),(1,.slice d m.length cap'),(4,.bool false),(12,.i l.length),(13,.i p)] [] []) (fun p=>l.length-p) (0) ⟨alg _,rfl,S.sn⟩ ?_;rintro k ac u hI;try dsimp only at hI
 obtain⟨hk,hR,S⟩:=hI;refine akJ fun _ dP=>adr S 1 [] [(14,.bool ((k:Int)<(l.length:Int)))] fun S=>akI<|dP _ _<|ak6 (fun _ iq=>?_);refine akL S (fun bV=>?_) (fun bV=>?_)
 ·refine ak7<|iq _ _<|ak6 fun _ dn=>ak8<|akJ fun _ cO=>adr S 2 [] [(5,.i k)] fun S=>akI<|cO _ _<|ak6 (fun _ gu=>?_);have uZ:k<l.length:=by have:=alj bV; omega
  obtain⟨b15,o16,rfl,x21,Fg,RN,RP⟩:=als h (fun _=>rfl) (k) uZ;have S:=S.view0 RN RP;have sF:k<m.length:=by have:=kD hc4; have:=alj bV; omega
  obtain⟨b23,o24,rfl,y29,hx27,Iy,KO⟩:=als h' (fun _=>rfl) (k) sF;have S:=S.view0 Iy KO;refine akU S 9 [.idx k l.length,.mem 1 0,.idx k m.length,.mem 0 0] [] [(24,.bool ((x21) != y29))] trivial (hk:=⟨uZ,sF,trivial⟩) fun ac u CS S=>akI (gu _ _ ?_);refine akL S (fun hc31=>?_) (fun hc31=>?_)
  ·refine akJ fun _ kP=>adr S 1 [] [(4,.bool false)] fun S=>akI<|kP _ _<|akM S results139 ?_;exact⟨aB (sK uZ sF (fun e=>by have hq:=hc31; rw[Fg,hx27]at e; subst e; simp at hq)),S.E⟩
  refine ak7<|dn _ _<|alc<|adr S 2 [.re 25 (.i (IntKind.i64.wrap ((k:Int)+1))) (.i (k+1:Nat))] [(13,.i (k+1:Nat))] (hk:=⟨akV (by omega),trivial⟩) fun S=>akI ?_;show ∃i',_∧_;exact⟨(k+1),⟨by omega,(mV uZ sF hR (by rw[Fg,hx27]; exact ZH hc31)),S.sn⟩,by show _-_<_-_; omega⟩
 refine alk<|je _ _<|akJ fun _ oK=>adr S 1 [] [(4,.bool true)] fun S=>akI<|oK _ _<|akM S results139 ?_;exact⟨aB (sN (by have:=alo bV; omega) (kD hc4) hR),S.E⟩
open Go.RowKit
variable{α:Type}
theorem Xa(p:dF):(((min (p.r.toNat:Int) (p.a.toNat:Int))==(p.r.toNat:Int))&&(((min (p.g.toNat:Int) (p.a.toNat:Int))==(p.g.toNat:Int))&&(((min (p.b.toNat:Int) (p.a.toNat:Int))==(p.b.toNat:Int))&&((min (p.a.toNat:Int) (p.a.toNat:Int))==(p.a.toNat:Int)))))=p.valid:=by
 have h:∀x y:UInt8,((min (x.toNat:Int) (y.toNat:Int))==(x.toNat:Int))=decide (x≤y):=by
  intro x y; rw[al4]; simp only[alu,alz,UInt8.le_iff_toNat_le]; omega
 rw[h,h,h,h]; unfold dF.valid; simp
theorem mY{l:List α}{k:Nat}{p:α→Bool}(hk:l.length≤k)(h:(l.take k).all p=true):l.all p=true:=by rwa [alJ hk]at h
theorem vg{l:List α}{k:Nat}{p:α→Bool}(hk:k<l.length)(h:p l[k]=false):l.all p=false:=by
 rw[List.all_eq_false]; exact⟨l[k],aly hk,by simp[h]⟩
theorem jW{l:List α}{k:Nat}{p:α→Bool}(hk:k<l.length)(hR:(l.take k).all p=true)(h:p l[k]=true):(l.take (k+1)).all p=true:=by
 rw[alY hk,List.all_append,hR]; simp[h]
theorem BN{a b:Int}(ha:side a=true)(hb:side b=true):IntKind.i64.wrap (a*b)=a*b:=by
 simp only[side,alr,alz]at ha hb;have h1:a*b≤4096*4096:=Int.le_trans (Int.mul_le_mul_of_nonneg_right ha.2 (by omega)) (Int.mul_le_mul_of_nonneg_left hb.2 (by omega));have h0:0≤a*b:=Int.mul_nonneg (by omega) (by omega);rw[amN]; omega
theorem Oa{m:bW}:((((!(side m.w))||(!(side m.h)))||(decide (65536<IntKind.i64.wrap (m.w*m.h))))||((m.l.length:Int) != IntKind.i64.wrap (m.w*m.h)))=((((!(side m.w))||(!(side m.h)))||(decide (65536<(m.w*m.h))))||((m.l.length:Int) != (m.w*m.h))):=by
 cases ha:side m.w<;>cases hb:side m.h<;>simp only[Bool.not_false,Bool.not_true,Bool.true_or,anr,Bool.or_true];rw[BN ha hb]
theorem aeb{m:bW}(h:((((!(side m.w))||(!(side m.h)))||(decide (65536<(m.w*m.h))))||((m.l.length:Int) != (m.w*m.h)))=true):false=m.valid:=by
 unfold bW.valid bW.size;revert h;cases side m.w<;>cases side m.h<;>simp;intro h h1 h2; omega
theorem ab3{m:bW}(h:((((!(side m.w))||(!(side m.h)))||(decide (65536<(m.w*m.h))))||((m.l.length:Int) != (m.w*m.h)))=false):(!(!(m.l.all dF.valid)))=m.valid:=by
 unfold bW.valid bW.size;revert h;cases side m.w<;>cases side m.h<;>simp;intro h h1; rw[h1]; simp[h]
theorem aec{m n:bW}:((m.w==n.w)&&(m.h==n.h)&&decide (m.l=n.l))=m.eq n:=by
 unfold bW.eq;rw[am3];by_cases h:m.l=n.l<;>simp[h]
theorem Xb{l:List fM}(h:((decide ((l.length:Int)<1))||(decide (16<(l.length:Int))))=true):false=eG l:=by
 unfold eG;simp only[amK,alz]at h;rcases h with h | h
 ·rw[amr (by omega)]; rfl
 rw[amr (p:=l.length≤16) (by omega)]; simp
theorem Oc{l:List fM}(h:((decide ((l.length:Int)<1))||(decide (16<(l.length:Int))))=false):eG l=bZ 0 l:=by
 unfold eG;simp only[al0,amc]at h;rw[ame (p:=1≤l.length) (by omega),ame (p:=l.length≤16) (by omega)]; rfl
theorem Xc{l:List fM}{k:Nat}{last:Int}(h:((decide ((l.length:Int)<1))||(decide (16<(l.length:Int))))=false)(hk:l.length≤k)(hR:bZ 0 l=bZ last (l.drop k)):true=eG l:=by
 rw[Oc h,hR,amd hk]; rfl
theorem Xd{l:List fM}{k:Nat}{last:Int}(h:((decide ((l.length:Int)<1))||(decide (16<(l.length:Int))))=false)(hk:k<l.length)(hR:bZ 0 l=bZ last (l.drop k))(hb:((decide (l[k].o<last))||(decide (65536<l[k].o)))=true):false=eG l:=by
 rw[Oc h,hR,al8 hk,bZ];simp only[amK,alz]at hb;rcases hb with hb | hb
 ·rw[amr (by omega)]; rfl
 rw[amr (p:=l[k].o≤65536) (by omega)]; simp
theorem RS{l:List fM}{k:Nat}{last:Int}(hk:k<l.length)(hR:bZ 0 l=bZ last (l.drop k))(hb:((decide (l[k].o<last))||(decide (65536<l[k].o)))=false):bZ 0 l=bZ l[k].o (l.drop (k+1)):=by
 rw[hR,al8 hk,bZ];simp only[al0,amc]at hb;rw[ame (p:=last≤l[k].o) (by omega),ame (p:=l[k].o≤65536) (by omega)]; rfl
theorem vk{w:World}{b:Nat}(p:dF)(x:Int)(hx:Bx w b #[.int .u8 (p.r.toNat:Int),.int .u8 (p.g.toNat:Int),.int .u8 (p.b.toNat:Int),.int .u8 (p.a.toNat:Int)]) :
  Calls prog 231 #[.int .u8 x,.pointer (some ⟨b,0,none⟩)] w fun e w'=>e = .returned (.int .u8 (min x (p.a.toNat:Int)))∧w=w':=by
 skip;refine akN func231 ntmps231 (fun ac S=>?_);have S:=S.view0 hx.1 (hx.range 0 4 rfl);refine akJ fun _ aS=>adr S 1 [] [(3,.int .u8 0)] fun S=>akI<|aS _ _<|akJ fun _ fD=>adr S 5 [.mem 0 3,.re 7 (.int .u8 (if (p.a.toNat:Int)<x then (p.a.toNat:Int)else x)) (.int .u8 (min x (p.a.toNat:Int)))] [(3,.int .u8 (min x (p.a.toNat:Int)))] (hk:=⟨Sx.aed,trivial⟩) fun S=>akI<|fD _ _<|akM S results231 ?_;exact⟨rfl,rfl⟩
theorem ZV{w:World}{b:Nat}(p:dF)(hx:Bx w b #[.int .u8 (p.r.toNat:Int),.int .u8 (p.g.toNat:Int),.int .u8 (p.b.toNat:Int),.int .u8 (p.a.toNat:Int)]) :
  Calls prog 230 #[.agg #[.int .u8 (p.r.toNat:Int),.int .u8 (p.g.toNat:Int),.int .u8 (p.b.toNat:Int),.int .u8 (p.a.toNat:Int)],.func (.func 231) #[] #[.pointer (some ⟨b,0,none⟩)]] w fun e w'=>e = .returned (.agg #[.int .u8 (min (p.r.toNat:Int) (p.a.toNat:Int)),.int .u8 (min (p.g.toNat:Int) (p.a.toNat:Int)),.int .u8 (min (p.b.toNat:Int) (p.a.toNat:Int)),.int .u8 (min (p.a.toNat:Int) (p.a.toNat:Int))])∧Ext w w':=by
 skip;refine akN func230 ntmps230 (fun ac S=>?_);have S:=S.view0 hx.1 (hx.range 0 4 rfl);refine akJ fun _ aS=>akK S 2 p.cells fun ac u b2 E3 hb4 S=>akK S 4 [.int .u8 0,.int .u8 0,.int .u8 0,.int .u8 0] fun ac u b5 E6 hb7 S=>akI<|aS _ _<|ak6 fun _ dP=>akU S 17 [.mem 1 0,.mem 1 1,.mem 1 2,.mem 1 3] [(_,_,true,.int .u8 (min (p.r.toNat:Int) (p.a.toNat:Int))),(_,_,true,.int .u8 (min (p.g.toNat:Int) (p.a.toNat:Int))),(_,_,true,.int .u8 (min (p.b.toNat:Int) (p.a.toNat:Int))),(_,_,true,.int .u8 (min (p.a.toNat:Int) (p.a.toNat:Int)))] [(21,.agg #[.int .u8 (min (p.r.toNat:Int) (p.a.toNat:Int)),.int .u8 (min (p.g.toNat:Int) (p.a.toNat:Int)),.int .u8 (min (p.b.toNat:Int) (p.a.toNat:Int)),.int .u8 (min (p.a.toNat:Int) (p.a.toNat:Int))])] ⟨fun u hC g=>akZ (vk p (p.r.toNat:Int) (hx.ext (Ext.trans' S.E hC))),fun u hC g=>akZ (vk p (p.g.toNat:Int) (hx.ext (Ext.trans' S.E hC))),fun u hC g=>akZ (vk p (p.b.toNat:Int) (hx.ext (Ext.trans' S.E hC))),fun u hC g=>akZ (vk p (p.a.toNat:Int) (hx.ext (Ext.trans' S.E hC))),trivial⟩ fun ac u E9 S=>akO S 0 (off:=0) (cs:=[.int .u8 (min (p.r.toNat:Int) (p.a.toNat:Int)),.int .u8 (min (p.g.toNat:Int) (p.a.toNat:Int)),.int .u8 (min (p.b.toNat:Int) (p.a.toNat:Int)),.int .u8 (min (p.a.toNat:Int) (p.a.toNat:Int))]) rfl fun u C10 S=>akI<|dP _ _<|akW S 0 results230 rfl (v := .agg #[.int .u8 (min (p.r.toNat:Int) (p.a.toNat:Int)),.int .u8 (min (p.g.toNat:Int) (p.a.toNat:Int)),.int .u8 (min (p.b.toNat:Int) (p.a.toNat:Int)),.int .u8 (min (p.a.toNat:Int) (p.a.toNat:Int))]) ?_;exact⟨rfl,S.E⟩
theorem RU(p:dF)(w:World) :
  Calls prog 201 #[.agg #[.int .u8 (p.r.toNat:Int),.int .u8 (p.g.toNat:Int),.int .u8 (p.b.toNat:Int),.int .u8 (p.a.toNat:Int)]] w fun e w'=>e = .returned (.agg #[.int .u8 (min (p.r.toNat:Int) (p.a.toNat:Int)),.int .u8 (min (p.g.toNat:Int) (p.a.toNat:Int)),.int .u8 (min (p.b.toNat:Int) (p.a.toNat:Int)),.int .u8 (min (p.a.toNat:Int) (p.a.toNat:Int))])∧Ext w w':=by
 skip;refine akN func201 ntmps201 fun ac S=>akJ fun _ aS=>akK S 1 p.cells fun ac u b2 E3 hb4 S=>akK S 2 [.int .u8 0,.int .u8 0,.int .u8 0,.int .u8 0] fun ac u b5 E6 hb7 S=>akI<|aS _ _<|akJ fun _ dP=>adr S 2 [.mem 1 0] [(3,.agg p.cells.toArray),(4,.func (.func 231) #[] #[.pointer (some ⟨b2,0,none⟩)])] fun S=>akQ S 5 (ZV p (S.bx 1)) fun ac u E9 S=>akO S 0 (off:=0) (cs:=[.int .u8 (min (p.r.toNat:Int) (p.a.toNat:Int)),.int .u8 (min (p.g.toNat:Int) (p.a.toNat:Int)),.int .u8 (min (p.b.toNat:Int) (p.a.toNat:Int)),.int .u8 (min (p.a.toNat:Int) (p.a.toNat:Int))]) rfl fun u C10 S=>akI<|dP _ _<|akW S 0 results201 rfl (v := .agg #[.int .u8 (min (p.r.toNat:Int) (p.a.toNat:Int)),.int .u8 (min (p.g.toNat:Int) (p.a.toNat:Int)),.int .u8 (min (p.b.toNat:Int) (p.a.toNat:Int)),.int .u8 (min (p.a.toNat:Int) (p.a.toNat:Int))]) ?_;exact⟨rfl,S.E⟩
theorem KP(p:dF)(w:World) :
  Calls prog 160 #[.agg #[.int .u8 (p.r.toNat:Int),.int .u8 (p.g.toNat:Int),.int .u8 (p.b.toNat:Int),.int .u8 (p.a.toNat:Int)]] w fun e w'=>e = .returned (.bool p.valid)∧Ext w w':=by
 skip;refine akN func160 ntmps160 fun ac S=>akJ fun _ aS=>akK S 1 p.cells fun ac u b2 E3 hb4 S=>adr S 1 [] [(2,.bool false)] fun S=>akI<|aS _ _<|ak6 fun _ dB=>akU S 4 [.mem 0 0,.mem 0 0,.cmp .eql 122 (.tmp 4) (.tmp 5) (.agg #[.int .u8 (min (p.r.toNat:Int) (p.a.toNat:Int)),.int .u8 (min (p.g.toNat:Int) (p.a.toNat:Int)),.int .u8 (min (p.b.toNat:Int) (p.a.toNat:Int)),.int .u8 (min (p.a.toNat:Int) (p.a.toNat:Int))]) (.agg #[.int .u8 (p.r.toNat:Int),.int .u8 (p.g.toNat:Int),.int .u8 (p.b.toNat:Int),.int .u8 (p.a.toNat:Int)]) (.bool (((min (p.r.toNat:Int) (p.a.toNat:Int))==(p.r.toNat:Int))&&(((min (p.g.toNat:Int) (p.a.toNat:Int))==(p.g.toNat:Int))&&(((min (p.b.toNat:Int) (p.a.toNat:Int))==(p.b.toNat:Int))&&((min (p.a.toNat:Int) (p.a.toNat:Int))==(p.a.toNat:Int))))))] [(_,_,true,.agg #[.int .u8 (min (p.r.toNat:Int) (p.a.toNat:Int)),.int .u8 (min (p.g.toNat:Int) (p.a.toNat:Int)),.int .u8 (min (p.b.toNat:Int) (p.a.toNat:Int)),.int .u8 (min (p.a.toNat:Int) (p.a.toNat:Int))])] [(6,.bool (((min (p.r.toNat:Int) (p.a.toNat:Int))==(p.r.toNat:Int))&&(((min (p.g.toNat:Int) (p.a.toNat:Int))==(p.g.toNat:Int))&&(((min (p.b.toNat:Int) (p.a.toNat:Int))==(p.b.toNat:Int))&&((min (p.a.toNat:Int) (p.a.toNat:Int))==(p.a.toNat:Int))))))] ⟨fun u hC g=>RU p _,trivial⟩ (hk:=⟨ak2 (fun _=>afE ..) (by kernel_rfl),trivial⟩) fun ac u E6 S=>adr S 1 [] [(2,.bool (((min (p.r.toNat:Int) (p.a.toNat:Int))==(p.r.toNat:Int))&&(((min (p.g.toNat:Int) (p.a.toNat:Int))==(p.g.toNat:Int))&&(((min (p.b.toNat:Int) (p.a.toNat:Int))==(p.b.toNat:Int))&&((min (p.a.toNat:Int) (p.a.toNat:Int))==(p.a.toNat:Int))))))] fun S=>akI<|dB _ _<|akM S results160 ?_;exact⟨aB (Xa p),S.E⟩
theorem RV(p:dF)(w:World) :
  Calls prog 159 #[.agg #[.int .u8 (p.r.toNat:Int),.int .u8 (p.g.toNat:Int),.int .u8 (p.b.toNat:Int),.int .u8 (p.a.toNat:Int)]] w fun e w'=>e = .returned (.bool (!p.valid))∧Ext w w':=by
 skip;refine akN func159 ntmps159 fun ac S=>akJ fun _ aS=>akK S 1 p.cells fun ac u b2 E3 hb4 S=>adr S 1 [] [(2,.bool false)] fun S=>akI<|aS _ _<|akJ fun _ dB=>adr S 1 [.mem 0 0] [(3,.agg p.cells.toArray)] fun S=>akQ S 4 (KP p _) fun ac u E6 S=>adr S 2 [] [(2,.bool (!p.valid))] fun S=>akI<|dB _ _<|akM S results159 ?_;exact⟨rfl,S.E⟩
theorem KQ{w:World}{v:Value}{l:List dF}(h:aP 4 dF.cells w v l) :
  Calls prog 200 #[v,.func (.func 159) #[] #[]] w fun e w'=>∃z,e = .returned (.i z)∧decide (0≤z) = !(l.all dF.valid)∧Ext w w':=by
 obtain⟨a,cap,rfl⟩:=h.shape;have hmax:l.length≤9223372036854775807:=h.len;refine akN func200 ntmps200 fun ac S=>akJ fun _ aS=>adr S 1 [] [(4,.i 0)] fun S=>akI<|aS _ _<|ak6 fun _ fD=>akJ fun _ iD=>adr S 3 [] [(7,.i l.length),(8,.i 0)] fun S=>akI<|iD _ _<|ak8 ?_;refine alC (ι:=Nat) (fun p a' w'=>p≤l.length∧((l.take p).all dF.valid=true)∧Sx.St w a' w' 19 [(0,.slice a l.length cap),(1,.func (.func 159) #[] #[]),(4,.i 0),(7,.i l.length),(8,.i p)] [] []) (fun p=>l.length-p) (0) ⟨alg _,rfl,S.sn⟩ ?_;rintro k ac u hI;try dsimp only at hI
 obtain⟨hk,hR,S⟩:=hI;refine akJ fun _ lI=>adr S 1 [] [(9,.bool ((k:Int)<(l.length:Int)))] fun S=>akI<|lI _ _<|ak6 (fun _ dB=>?_);refine akL S (fun hc6=>?_) (fun hc6=>?_)
 ·refine ak7<|dB _ _<|ak6 fun _ kJ=>ak8<|akJ fun _ dP=>adr S 2 [] [(5,.i k)] fun S=>akI<|dP _ _<|akJ (fun _ iq=>?_);have qw:k<l.length:=by have:=alj hc6; omega
  obtain⟨b10,o11,rfl,x16,wY,Iz,KR⟩:=als h (fun _=>rfl) (k) qw;have S:=S.view0 Iz KR;refine adr S 5 [.idx k l.length,.mem 0 0] [(11,.func (.func 159) #[] #[]),(15,.agg x16.cells.toArray)] (hk:=⟨qw,trivial⟩) fun S=>akQ S 16 (RV x16 _) fun ac u D5 S=>akI (iq _ _ ?_);refine akL S (fun hc19=>?_) (fun hc19=>?_)
  ·refine akJ fun _ iT=>adr S 2 [] [(4,.i k)] fun S=>akI<|iT _ _<|akM S results200 ?_;exact⟨_,rfl,by rw[vg qw (by rw[wY]; simpa using hc19)]; simp,S.E⟩
  refine ak7<|kJ _ _<|alc<|adr S 2 [.re 18 (.i (IntKind.i64.wrap ((k:Int)+1))) (.i (k+1:Nat))] [(8,.i (k+1:Nat))] (hk:=⟨akV (by omega),trivial⟩) fun S=>akI ?_;show ∃i',_∧_;exact⟨(k+1),⟨by omega,(jW qw hR (by rw[wY]; simpa using hc19)),S.sn⟩,by show _-_<_-_; omega⟩
 refine alk<|fD _ _<|akJ fun _ jI=>adr S 1 [] [(4,.i (-1))] fun S=>akI<|jI _ _<|akM S results200 ?_;exact⟨_,rfl,by rw[mY (by have:=alo hc6; omega) hR]; rfl,S.E⟩
theorem Oe{w:World}{v:Value}{l:List dF}(h:aP 4 dF.cells w v l) :
  Calls prog 158 #[v,.func (.func 159) #[] #[]] w fun e w'=>e = .returned (.bool (!(l.all dF.valid)))∧Ext w w':=by
 skip;refine akN func158 ntmps158 fun ac S=>akJ fun _ aS=>adr S 1 [] [(4,.bool false)] fun S=>akI<|aS _ _<|akJ fun _ fD=>adr S 2 [] [(5,v),(6,.func (.func 159) #[] #[])] fun S=>akS S (some 7) (KQ (h.below S.E)) ?_;rintro e u ⟨z,rfl,hz,E3⟩;refine⟨_,rfl,E3,fun ac S=>?_⟩;refine adr S 2 [] [(4,.bool (0≤z))] fun S=>akI<|fD _ _<|akM S results158 ?_;exact⟨aB hz,S.E⟩
theorem Og(n:Int)(w:World) :
  Calls prog 157 #[.i n] w fun e w'=>e = .returned (.bool (side n))∧w=w':=by
 skip;refine akN func157 ntmps157 fun ac S=>akJ fun _ aS=>adr S 1 [] [(2,.bool false)] fun S=>akI<|aS _ _<|akJ fun _ fD=>adr S 7 [] [(2,.bool ((decide (1≤n))&&(decide (n≤4096))))] fun S=>akI<|fD _ _<|akM S results157 ?_;exact⟨rfl,rfl⟩
theorem Au{w:World}{m:bW}(h:m.ok w) :
  Calls prog 121 #[m.v] w fun e w'=>e = .returned (.bool m.valid)∧Ext w w':=by
 obtain⟨a,cap,hs⟩:=h.2.2.shape;unfold bW.v;have hq:=h.2.2;rw[hs];rw[hs]at hq;refine akN func121 ntmps121 fun ac S=>akJ fun _ aS=>akK S 1 [.i m.w,.i m.h,.slice a m.l.length cap] fun ac u b2 E3 hb4 S=>adr S 1 [] [(2,.bool false)] fun S=>akI<|aS _ _<|akJ fun _ dB=>adr S 1 [] [(3,.func (.func 157) #[] #[])] fun S=>akI<|dB _ _<|ak6 fun _ je=>akJ fun _ kJ=>adr S 3 [.mem 0 0] [(4,.func (.func 157) #[] #[]),(6,.i m.w)] fun S=>ak4 S 7 (Og m.w _) fun ac S=>akX S 27 [.mem 0 1,.mem 0 0,.mem 0 1,.mem 0 2,.mem 0 0,.mem 0 1] [(_,_,(!(!(side m.w))),.bool (side m.h))] [(34,.bool ((((!(side m.w))||(!(side m.h)))||(decide (65536<(IntKind.i64.wrap (m.w*m.h)))))||(((m.l.length:Int)) != (IntKind.i64.wrap (m.w*m.h)))))] ⟨fun u hC g=>akZ (Og m.h _),trivial⟩ fun ac u E8 S=>akI (kJ _ _ ?_);refine akL S (fun hc9=>?_) (fun hc9=>?_)
 ·refine akJ fun _ fE=>adr S 1 [] [(2,.bool false)] fun S=>akI<|fE _ _<|akM S results121 ?_;exact⟨aB (aeb (Oa▸hc9)),S.E⟩
 refine ak7<|je _ _<|akJ fun _ dn=>adr S 2 [.mem 0 2] [(36,.slice a m.l.length cap)] fun S=>akQ S 37 (Oe (hq.below S.E)) fun ac u DL S=>adr S 2 [] [(2,.bool (!(!(m.l.all dF.valid))))] fun S=>akI<|dn _ _<|akM S results121 ?_;exact⟨aB (ab3 (Oa▸hc9)),S.E⟩
theorem vw{w:World}{m n:bW}(h:m.ok w)(h':n.ok w) :
  Calls prog 97 #[m.v,n.v] w fun e w'=>e = .returned (.bool (m.eq n))∧Ext w w':=by
 skip;refine akN func97 ntmps97 fun ac S=>akJ fun _ aS=>akK S 2 m.cells fun ac u b2 E3 hb4 S=>akK S 3 n.cells fun ac u b5 E6 hb7 S=>adr S 1 [] [(4,.bool false)] fun S=>akI<|aS _ _<|akJ fun _ dP=>akX S 20 [.mem 1 0,.mem 0 0,.mem 1 1,.mem 0 1,.mem 1 2,.mem 0 2] [(_,_,(((m.w)==n.w)&&((m.h)==n.h)),.bool (m.l=n.l))] [(4,.bool ((((m.w)==n.w)&&((m.h)==n.h))&&(decide (m.l=n.l))))] ⟨fun u hC g=>WZ (h.2.2.below (Ext.trans' S.E hC)) (h'.2.2.below (Ext.trans' S.E hC)),trivial⟩ fun ac u E9 S=>akI<|dP _ _<|akM S results97 ?_;exact⟨aB aec,S.E⟩
theorem IB{w:World}{v:Value}{l:List fM}(h:aP 5 fM.cells w v l) :
  Calls prog 251 #[v] w fun e w'=>e = .returned (.bool (eG l))∧Ext w w':=by
 obtain⟨a,cap,rfl⟩:=h.shape;have hmax:l.length≤9223372036854775807:=h.len;refine akN func251 ntmps251 fun ac S=>akJ fun _ aS=>adr S 1 [] [(2,.bool false)] fun S=>akI<|aS _ _<|ak6 fun _ fD=>akJ fun _ iD=>adr S 8 [] [(13,.bool ((decide ((l.length:Int)<1))||(decide (16<(l.length:Int)))))] fun S=>akI (iD _ _ ?_);refine akL S (fun hc4=>?_) (fun hc4=>?_)
 ·refine akJ fun _ dB=>adr S 1 [] [(2,.bool false)] fun S=>akI<|dB _ _<|akM S results251 ?_;exact⟨aB (Xb hc4),S.E⟩
 refine ak7<|fD _ _<|akJ fun _ je=>adr S 1 [] [(3,.i 0)] fun S=>akI<|je _ _<|ak6 fun _ kJ=>akJ fun _ dP=>adr S 3 [] [(14,.slice a l.length cap),(15,.i l.length),(16,.i 0)] fun S=>akI<|dP _ _<|ak8 ?_;refine alC (ι:=Nat×Int) (fun p a' w'=>p.1≤l.length∧(bZ 0 l=bZ p.2 (l.drop p.1))∧Sx.St w a' w' 32 [(0,.slice a l.length cap),(2,.bool false),(3,.i p.2),(14,.slice a l.length cap),(15,.i l.length),(16,.i p.1)] [] []) (fun p=>l.length-p.1) (0,0) ⟨alg _,rfl,S.sn⟩ ?_;rintro⟨k,last⟩ ac u hI;try dsimp only at hI
 obtain⟨hk,hR,S⟩:=hI;refine akJ fun _ iq=>adr S 1 [] [(17,.bool ((k:Int)<(l.length:Int)))] fun S=>akI<|iq _ _<|ak6 (fun _ fE=>?_);refine akL S (fun fU=>?_) (fun fU=>?_)
 ·refine ak7<|fE _ _<|ak6 fun _ cO=>ak8<|akJ (fun _ gu=>?_);have kC:k<l.length:=by have:=alj fU; omega
  obtain⟨b14,o15,rfl,x20,qm,zn,BL⟩:=als h (fun _=>rfl) (k) kC;have S:=S.view0 zn BL;refine adr S 2 [.idx k l.length,.mem 0 0] [(19,.agg x20.cells.toArray)] (hk:=⟨kC,trivial⟩) fun S=>akK S 5 [.i 0,.int .u8 0,.int .u8 0,.int .u8 0,.int .u8 0] fun ac u b22 CQ RX S=>akO S 0 (off:=0) (cs:=x20.cells) rfl fun u C25 S=>akI<|gu _ _<|ak6 fun _ jZ=>akJ fun _ kL=>adr S 9 [.mem 0 0,.mem 0 0] [(28,.bool ((decide (x20.o<last))||(decide (65536<x20.o))))] fun S=>akI (kL _ _ ?_);refine akL S (fun hc28=>?_) (fun hc28=>?_)
  ·refine akJ fun _ qA=>adr S 1 [] [(2,.bool false)] fun S=>akI<|qA _ _<|akM S results251 ?_;exact⟨aB (Xd hc4 kC hR (by rw[qm]; exact hc28)),S.E⟩
  refine ak7<|jZ _ _<|alc<|adr S 3 [.mem 0 0] [(3,.i x20.o)] fun S=>akI<|cO _ _<|alc<|adr S 2 [.re 31 (.i (IntKind.i64.wrap ((k:Int)+1))) (.i (k+1:Nat))] [(16,.i (k+1:Nat))] (hk:=⟨akV (by omega),trivial⟩) fun S=>akI ?_;show ∃i',_∧_;exact⟨((k+1),x20.o),⟨by omega,(by rw[←qm]; exact RS kC hR (by rw[qm]; exact hc28)),(S.sub [(0,.slice (some ⟨b14,o15,none⟩) l.length cap),(2,.bool false),(3,.i x20.o),(14,.slice (some ⟨b14,o15,none⟩) l.length cap),(15,.i l.length),(16,.i (k+1:Nat))]).sS.sJ 1⟩,by show _-_<_-_; omega⟩
 refine alk<|kJ _ _<|akJ fun _ nN=>adr S 1 [] [(2,.bool true)] fun S=>akI<|nN _ _<|akM S results251 ?_;exact⟨aB (Xc hc4 (by have:=alo fU; omega) hR),S.E⟩
theorem ZW(n:Int)(w:World) :
  Calls prog 119 #[.i n] w fun e w'=>e = .returned (.bool (decide (1≤n)&&decide (n≤13)))∧w=w':=by
 skip;refine akN func119 ntmps119 fun ac S=>akJ fun _ aS=>adr S 1 [] [(2,.bool false)] fun S=>akI<|aS _ _<|akJ fun _ fD=>adr S 7 [] [(2,.bool ((decide (1≤n))&&(decide (n≤13))))] fun S=>akI<|fD _ _<|akM S results119 ?_;exact⟨rfl,rfl⟩
theorem Fh(n:Int)(w:World) :
  Calls prog 229 #[.i n] w fun e w'=>e = .returned (.bool (iO n))∧w=w':=by
 skip;refine akN func229 ntmps229 fun ac S=>akJ fun _ aS=>adr S 1 [] [(2,.bool false)] fun S=>akI<|aS _ _<|akJ fun _ fD=>adr S 7 [] [(2,.bool ((decide (1≤n))&&(decide (n≤3))))] fun S=>akI<|fD _ _<|akM S results229 ?_;exact⟨rfl,rfl⟩
theorem ZX(n:Int)(w:World) :
  Calls prog 195 #[.i n] w fun e w'=>e = .returned (.bool (decide (1≤n)&&decide (n≤16384)))∧w=w':=by
 skip;refine akN func195 ntmps195 fun ac S=>akJ fun _ aS=>adr S 1 [] [(2,.bool false)] fun S=>akI<|aS _ _<|akJ fun _ fD=>adr S 7 [] [(2,.bool ((decide (1≤n))&&(decide (n≤16384))))] fun S=>akI<|fD _ _<|akM S results195 ?_;exact⟨rfl,rfl⟩
open Go.RowKit
variable{α:Type}
def nZ(l s:List Int):Option Bool:=if s.all (fun x=>decide (0≤x)&&decide (x≤1048576))then some (((l.length:Int)==0)||s.any (fun x=>decide (0<x)))else none
def mg(l:List Int):Bool:=l.all (fun x=>decide (0≤x)&&decide (x≤1048576))&&((((((l.length:Int)==0)||l.any (fun x=>decide (0<x)))&&((Int.tmod (l.length:Int) 2)==0))&&(decide ((l.length:Int)≤16))))
theorem Jl(l:List Int):nZ l (l.take 0)=some ((l.length:Int)==0):=by simp[nZ]
theorem Jm{l:List Int}{k:Nat}{any:Bool}(hk:k<l.length)(hR:nZ l (l.take k)=some any)(hb:((decide (l[k]<0))||(decide (1048576<l[k])))=false):nZ l (l.take (k+1))=some (any||(decide (0<l[k]))):=by
 unfold nZ at hR ⊢;rw[alY hk,List.all_append,List.any_append];simp only[al0,amc]at hb;split at hR
 ·rename_i h;obtain rfl:=alm hR;rw[h];simp[show 0≤l[k] by omega,show l[k]≤1048576 by omega,Bool.or_assoc]
 cases hR
theorem Oh{l:List Int}{k:Nat}{any:Bool}(hk:k<l.length)(hR:nZ l (l.take k)=some any)(hb:((decide (l[k]<0))||(decide (1048576<l[k])))=true):false=mg l:=by
 simp only[amK,alz]at hb;unfold mg;rw[vg hk (by simp; omega)]; rfl
theorem Oi{l:List Int}{k:Nat}{any:Bool}(hk:l.length≤k)(hR:nZ l (l.take k)=some any):((any&&((Int.tmod (l.length:Int) 2)==0))&&(decide ((l.length:Int)≤16)))=mg l:=by
 unfold nZ at hR;rw[alJ hk]at hR;split at hR
 ·rename_i h;obtain rfl:=alm hR;unfold mg;rw[h]; rfl
 cases hR
def dI(b:Bool)(n:Int):Value:=if b=true then .iface 111 (.agg #[.i n,.nilIface])else .nilIface
theorem Xe{b:Bool}{n:Int}{x:Operand}:∀w,(do eqGuard .neq 108 x (.const .nilIface) (dI b n) .nilIface; binOp .neq 108 (dI b n) .nilIface:Sem Value).run prog w = .ok (.bool (!(!b))) w:=fun w=>by
 cases b<;>simp[dI,go_sem]
def ku:List (Bool×Int)→Value
 | [] => .nilIface
 | p::l=>if p.1=true then .iface 111 (.agg #[.i 0,.iface 111 (.agg #[.i p.2,.nilIface])])else ku l
theorem RY{w:World}{v:Value}{l:List Int}(h:eF yL w v l) :
  Calls prog 196 #[v] w fun e w'=>e = .returned (.bool (mg l))∧Ext w w':=by
 obtain⟨a,cap,rfl⟩:=(dR h).shape;have hmax:l.length≤9223372036854775807:=(dR h).len;refine akN func196 ntmps196 fun ac S=>akJ fun _ aS=>adr S 1 [] [(2,.bool false)] fun S=>akI<|aS _ _<|akJ fun _ fD=>adr S 4 [] [(3,.bool (((l.length:Int))==0))] fun S=>akI<|fD _ _<|ak6 fun _ iD=>akJ fun _ lI=>adr S 3 [] [(9,.slice a l.length cap),(10,.i l.length),(11,.i 0)] fun S=>akI<|lI _ _<|ak8 ?_;refine alC (ι:=Nat×Bool) (fun p a' w'=>p.1≤l.length∧(nZ l (l.take p.1)=some p.2)∧Sx.St w a' w' 39 [(0,.slice a l.length cap),(2,.bool false),(3,.bool p.2),(9,.slice a l.length cap),(10,.i l.length),(11,.i p.1)] [] []) (fun p=>l.length-p.1) (0,((l.length:Int)==0)) ⟨alg _,Jl l,S.sn⟩ ?_;rintro⟨k,any⟩ ac u hI;try dsimp only at hI
 obtain⟨hk,hR,S⟩:=hI;refine akJ fun _ dB=>adr S 1 [] [(12,.bool ((k:Int)<(l.length:Int)))] fun S=>akI<|dB _ _<|ak6 (fun _ je=>?_);refine akL S (fun kW=>?_) (fun kW=>?_)
 ·refine ak7<|je _ _<|ak6 fun _ dP=>ak8<|akJ (fun _ iq=>?_);have qw:k<l.length:=by have:=alj kW; omega
  obtain⟨b10,o11,rfl,x16,wY,Iz,KR⟩:=als (dR h) (fun _=>rfl) (k) qw;have S:=S.view0 Iz KR;refine adr S 3 [.idx k l.length,.mem 0 0] [(5,.i x16)] (hk:=⟨qw,trivial⟩) fun S=>akI<|iq _ _<|ak6 fun _ jh=>akJ fun _ jf=>adr S 6 [] [(20,.bool ((decide (x16<0))||(decide (1048576<x16))))] fun S=>akI (jf _ _ ?_);refine akL S (fun wL=>?_) (fun wL=>?_)
  ·refine akJ fun _ jI=>adr S 1 [] [(2,.bool false)] fun S=>akI<|jI _ _<|akM S results196 ?_;exact⟨aB (Oh qw hR (by rw[wY]; exact wL)),S.E⟩
  refine ak7<|jh _ _<|alc<|adr S 6 [] [(3,.bool (any||(decide (0<x16))))] fun S=>akI<|dP _ _<|alc<|adr S 2 [.re 26 (.i (IntKind.i64.wrap ((k:Int)+1))) (.i (k+1:Nat))] [(11,.i (k+1:Nat))] (hk:=⟨akV (by omega),trivial⟩) fun S=>akI ?_;show ∃i',_∧_;exact⟨((k+1),any||(decide (0<x16))),⟨by omega,(by rw[←wY]; exact Jm qw hR (by rw[wY]; exact wL)),S.sn⟩,by show _-_<_-_; omega⟩
 refine alk<|iD _ _<|akJ fun _ jJ=>adr S 13 [] [(2,.bool ((any&&(((Int.tmod (l.length:Int) 2))==0))&&(decide ((l.length:Int)≤16))))] fun S=>akI<|jJ _ _<|akM S results196 ?_;exact⟨aB (Oi (by have:=alo kW; omega) hR),S.E⟩
def aX.valid(p:aX):Bool:=(((((((decide (1≤p.width)&&decide (p.width≤16384))&&((((p.join)==1)||((p.join)==2))||((p.join)==3)))&&((((p.cap)==3)||((p.cap)==4))||((p.cap)==5)))&&(decide (256≤p.dX)))&&(decide (p.dX≤65536)))&&(mg p.dash))&&(decide (0≤p.phase)))&&(decide (p.phase≤1048576))
def aX.eq(p q:aX):Bool:=((((((p.width)==q.width)&&((p.join)==q.join))&&((p.cap)==q.cap))&&((p.dX)==q.dX))&&((p.phase)==q.phase))&&(decide (p.dash=q.dash))
theorem Xf{w:World}{p:aX}(h:p.ok w) :
  Calls prog 155 #[p.v] w fun e w'=>e = .returned (.bool p.valid)∧Ext w w':=by
 skip;refine akN func155 ntmps155 fun ac S=>akJ fun _ aS=>akK S 1 p.cells fun ac u b2 E3 hb4 S=>adr S 1 [] [(2,.bool false)] fun S=>akI<|aS _ _<|akJ fun _ dB=>adr S 14 [.mem 0 1,.mem 0 1,.mem 0 1] [(3,.bool ((((p.join)==1)||((p.join)==2))||((p.join)==3)))] fun S=>akI<|dB _ _<|akJ fun _ je=>adr S 14 [.mem 0 2,.mem 0 2,.mem 0 2] [(4,.bool ((((p.cap)==3)||((p.cap)==4))||((p.cap)==5)))] fun S=>akI<|je _ _<|akJ fun _ kJ=>adr S 2 [.mem 0 0] [(32,.i p.width)] fun S=>ak4 S 33 (ZX p.width _) fun ac S=>akX S 32 [.mem 0 3,.mem 0 3,.mem 0 4,.mem 0 5,.mem 0 5] [(_,_,(((((decide (1≤p.width)&&decide (p.width≤16384))&&((((p.join)==1)||((p.join)==2))||((p.join)==3)))&&((((p.cap)==3)||((p.cap)==4))||((p.cap)==5)))&&(decide (256≤p.dX)))&&(decide (p.dX≤65536))),.bool (mg p.dash))] [(2,.bool ((((((((decide (1≤p.width)&&decide (p.width≤16384))&&((((p.join)==1)||((p.join)==2))||((p.join)==3)))&&((((p.cap)==3)||((p.cap)==4))||((p.cap)==5)))&&(decide (256≤p.dX)))&&(decide (p.dX≤65536)))&&(mg p.dash))&&(decide (0≤p.phase)))&&(decide (p.phase≤1048576))))] ⟨fun u hC g=>RY (h.2.2.2.2.1.below (Ext.trans' S.E hC)),trivial⟩ fun ac u E8 S=>akI<|kJ _ _<|akM S results155 ?_;exact⟨rfl,S.E⟩
theorem wZ{w:World}{p q:aX}(h:p.ok w)(h':q.ok w) :
  Calls prog 96 #[p.v,q.v] w fun e w'=>e = .returned (.bool (p.eq q))∧Ext w w':=by
 skip;refine akN func96 ntmps96 fun ac S=>akJ fun _ aS=>akK S 2 p.cells fun ac u b2 E3 hb4 S=>akK S 3 q.cells fun ac u b5 E6 hb7 S=>adr S 1 [] [(4,.bool false)] fun S=>akI<|aS _ _<|akJ fun _ dP=>akX S 41 [.mem 1 0,.mem 0 0,.mem 1 1,.mem 0 1,.mem 1 2,.mem 0 2,.mem 1 3,.mem 0 3,.mem 1 5,.mem 0 5,.mem 1 4,.mem 0 4] [(_,_,((((((p.width)==q.width)&&((p.join)==q.join))&&((p.cap)==q.cap))&&((p.dX)==q.dX))&&((p.phase)==q.phase)),.bool (p.dash=q.dash))] [(4,.bool (((((((p.width)==q.width)&&((p.join)==q.join))&&((p.cap)==q.cap))&&((p.dX)==q.dX))&&((p.phase)==q.phase))&&(decide (p.dash=q.dash))))] ⟨fun u hC g=>W9 (dR (h.2.2.2.2.1.below (Ext.trans' S.E hC))) (dR (h'.2.2.2.2.1.below (Ext.trans' S.E hC))),trivial⟩ fun ac u E9 S=>akI<|dP _ _<|akM S results96 ?_;exact⟨rfl,S.E⟩
theorem Oj(n:Int)(w:World) :
  Calls prog 112 #[.i n] w fun e w'=>e = .returned (.bool ((n==1)||(n==2)))∧w=w':=by
 skip;refine akN func112 ntmps112 fun ac S=>akJ fun _ aS=>adr S 1 [] [(2,.bool false)] fun S=>akI<|aS _ _<|akJ fun _ fD=>adr S 7 [] [(2,.bool (((n)==1)||((n)==2)))] fun S=>akI<|fD _ _<|akM S results112 ?_;exact⟨rfl,rfl⟩
theorem iZ(b:Bool)(n:Int)(w:World) :
  Calls prog 114 #[.bool b,.i n] w fun e w'=>e = .returned (dI b n)∧w=w':=by
 skip;refine akN func114 ntmps114 fun ac S=>akJ fun _ aS=>adr S 1 [] [(4,.nilIface)] fun S=>akI<|aS _ _<|ak6 fun _ fD=>akJ fun _ iD=>adr S 2 [] [(6,.bool (!b))] fun S=>akI (iD _ _ ?_);refine akL S (fun hc4=>?_) (fun hc4=>?_)
 ·refine akJ fun _ dB=>adr S 1 [] [(4,.nilIface)] fun S=>akI<|dB _ _<|akM S results114 ?_;obtain rfl:b=false:=by simpa using hc4
  exact⟨rfl,rfl⟩
 refine ak7<|fD _ _<|akJ fun _ je=>adr S 4 [] [(4,.iface 111 (.agg #[.i n,.nilIface]))] fun S=>akI<|je _ _<|akM S results114 ?_;obtain rfl:b=true:=by simpa using hc4
 exact⟨rfl,rfl⟩
theorem first_any{w:World}{v:Value}{l:List (Bool×Int)}(h:aP 1 (fun p=>[dI p.1 p.2]) w v l) :
  Calls prog 113 #[v] w fun e w'=>e = .returned (ku l)∧Ext w w':=by
 obtain⟨a,cap,rfl⟩:=h.shape;have hmax:l.length≤9223372036854775807:=h.len;refine akN func113 ntmps113 fun ac S=>akJ fun _ aS=>adr S 1 [] [(2,.nilIface)] fun S=>akI<|aS _ _<|ak6 fun _ fD=>akJ fun _ iD=>adr S 3 [] [(5,.slice a l.length cap),(6,.i l.length),(7,.i 0)] fun S=>akI<|iD _ _<|ak8 ?_;refine alC (ι:=Nat) (fun p a' w'=>p≤l.length∧(ku l=ku (l.drop p))∧Sx.St w a' w' 17 [(0,.slice a l.length cap),(2,.nilIface),(5,.slice a l.length cap),(6,.i l.length),(7,.i p)] [] []) (fun p=>l.length-p) (0) ⟨alg _,rfl,S.sn⟩ ?_;rintro k ac u hI;try dsimp only at hI
 obtain⟨hk,hR,S⟩:=hI;refine akJ fun _ lI=>adr S 1 [] [(8,.bool ((k:Int)<(l.length:Int)))] fun S=>akI<|lI _ _<|ak6 (fun _ dB=>?_);refine akL S (fun hc6=>?_) (fun hc6=>?_)
 ·refine ak7<|dB _ _<|ak6 fun _ kJ=>ak8<|akJ (fun _ dP=>?_);have tY:k<l.length:=by have:=alj hc6; omega
  obtain⟨b9,o10,rfl,x15,BO,hb16,RZ⟩:=als h (fun _=>rfl) (k) tY;have S:=S.view0 hb16 RZ;refine adr S 3 [.idx k l.length,.mem 0 0] [(4,dI x15.1 x15.2)] (hk:=⟨tY,trivial⟩) fun S=>akI<|dP _ _<|akJ fun _ gJ=>adr S 2 [.cmp .neq 108 (.tmp 11) (.const .nilIface) (dI x15.1 x15.2) .nilIface (.bool (!(!x15.1)))] [(12,.bool (!(!x15.1)))] (hk:=⟨Xe,trivial⟩) fun S=>akI (gJ _ _ ?_);refine akL S (fun hc18=>?_) (fun hc18=>?_)
  ·have hb:x15.1=true:=by simpa using hc18
   rw[show dI x15.1 x15.2 = .iface 111 (.agg #[.i x15.2,.nilIface])from ale hb]at S;refine akJ fun _ jf=>adr S 4 [] [(2,.iface 111 (.agg #[.i 0,.iface 111 (.agg #[.i x15.2,.nilIface])]))] fun S=>akI<|jf _ _<|akM S results113 ?_;exact⟨by rw[hR,al8 tY,BO,ku,ale hb],S.E⟩
  refine ak7<|kJ _ _<|alc<|adr S 2 [.re 16 (.i (IntKind.i64.wrap ((k:Int)+1))) (.i (k+1:Nat))] [(7,.i (k+1:Nat))] (hk:=⟨akV (by omega),trivial⟩) fun S=>akI ?_;show ∃i',_∧_;exact⟨(k+1),⟨by omega,(by rw[hR,al8 tY,BO,ku,ak9 (by simpa using hc18)]),S.sn⟩,by show _-_<_-_; omega⟩
 refine alk<|fD _ _<|akJ fun _ iT=>adr S 1 [] [(2,.nilIface)] fun S=>akI<|iT _ _<|akM S results113 ?_;exact⟨by rw[hR,amd (by have:=alo hc6; omega)]; rfl,S.E⟩
end Go.Proofs.YtfmkkemfhjkajaaGreatDoor
