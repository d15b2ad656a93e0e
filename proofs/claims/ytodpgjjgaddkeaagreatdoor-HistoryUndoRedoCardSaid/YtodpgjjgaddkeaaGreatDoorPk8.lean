/- slices.Equal of the rows that -/
import Derived.Test.YtodpgjjgaddkeaaGreatDoorPk7
import Derived.Great.BuildSlice
set_option maxRecDepth 100000
set_option maxHeartbeats 9999999
open Go renaming World->Á,Value->À,Calls->Ä,wpList->Ð
set_option linter.unusedVariables false
set_option linter.unusedSimpArgs false
namespace Go.Proofs.Pv
open _root_.Go.Proofs.Tryz
section
open Go.RowKit Go.Sx
variable{α:Type}
variable{l m:List α}{w:Á}{v u:À}{k:Nat}
abbrev aC{a b:Bool}(h:a=b):Ending.returned (.b a) = .R (.b b):=by rw[h]
abbrev nJ [DecidableEq α](h:((l.length:Int) != (m.length:Int))=true):false=decide (l=m):=by
 have h1:l≠m:=λe=>by subst e; simp at h
 simp[h1]
abbrev lZ(h:((l.length:Int) != (m.length:Int))=false):l.length=m.length:=by simp at h; omega
abbrev rU [DecidableEq α](hk:l.length<=k)(h:l.length=m.length)(hR:l.take k=m.take k):true=decide (l=m):=by
 rw[Ĝ hk,Ĝ Z]at hR; simp[hR]
abbrev rQ [DecidableEq α](h1:k<l.length)(h2:k<m.length)(h:l[k]≠m[k]):false=decide (l=m):=by
 have h1:l≠m:=λe=>by subst e; exact h I
 simp[h1]
abbrev nK(h1:k<l.length)(h2:k<m.length)(hR:l.take k=m.take k)(h:l[k]=m[k]):l.take (k+1)=m.take (k+1):=by
 rw[ı h1,ı h2,hR,h]
abbrev adh{x y:dQ}(h:(!((x.verb==y.verb)&&((x.a.x==y.a.x)&&((x.a.y==y.a.y)&&((x.b.x==y.b.x)&&((x.b.y==y.b.y)&&((x.c.x==y.c.x)&&(x.c.y==y.c.y))))))))=false):x=y:=by
 obtain⟨v,⟨a,b⟩,⟨c,d⟩,⟨e,f⟩⟩:=x;obtain⟨v',⟨a',b'⟩,⟨c',d'⟩,⟨e',f'⟩⟩:=y;simp at h |-; omega
abbrev Ik{a b:UInt8}(h:(a.toNat:Int)=(b.toNat:Int)):a=b:=Ϩ.1 Z
abbrev VO{x y:bQ}(h:(!(((x.r.toNat:Int)==y.r.toNat)&&(((x.g.toNat:Int)==y.g.toNat)&&(((x.b.toNat:Int)==y.b.toNat)&&((x.a.toNat:Int)==y.a.toNat)))))=false):x=y:=by
 obtain⟨a,b,c,d⟩:=x;obtain⟨a',b',c',d'⟩:=y;simp only[Ő,æ,Û]at h;rw[Ik h.1,Ik h.2.1,Ik h.2.2.1,Ik h.2.2.2]
abbrev YF{x y:fH}(h:(!((x.o==y.o)&&(((x.c.r.toNat:Int)==y.c.r.toNat)&&(((x.c.g.toNat:Int)==y.c.g.toNat)&&(((x.c.b.toNat:Int)==y.c.b.toNat)&&((x.c.a.toNat:Int)==y.c.a.toNat))))))=false):x=y:=by
 obtain⟨o,c⟩:=x;obtain⟨o',c'⟩:=y;simp only[Ő,æ,Û]at h;have:c=c':=VO (by simp only[Ő,æ,Û]; exact h.2);rw[h.1,this]
abbrev ads{x y:Int}(h:(x != y)=false):x=y:=by simpa using h
abbrev aag{l m:List dQ}(h:aI 7 dQ.cells w v l)(h':aI 7 dQ.cells w u m) :
  Ä prog 182 #[v,u] w (RF w (.b (l=m))):=by
 obtain⟨a,cap,rfl⟩:=h.shape;obtain⟨d,cap',rfl⟩:=h'.shape;have hmax:l.length<=9223372036854775807:=h.len;refine Ë func182 ntmps182 λS=>È S (((l.length:Int)) != (m.length:Int)) (λhc4 S=>?_) (λhc4 S=>?_)
 .refine Æ S (.z) (λS=>?_);exact⟨aC (nJ hc4),S.E⟩
 refine ĕ S (ι:=Nat) (λp a' w'=>p<=l.length∧(l.take p=m.take p)∧Sx.St w a' w' 26 [(0,.s a l.length cap),(1,.s d m.length cap'),(4,.z),(12,.i l.length),(13,.i p)] [] []) (λp=>l.length-p) (0) (λS=>⟨Õ _,I,S.oK⟩) ?_;rintro k ac u ig fC hI;try dsimp only at hI
 obtain⟨hk,hR,S⟩:=hI;refine Ė S λS=>È S (decide ((k:Int)<(l.length:Int))) (λdZ S=>?_) (λdZ S=>?_)
 .have vO:k<l.length:=by have:=å dZ; omega
  obtain⟨b15,o16,rfl,x21,JV,TN,XO⟩:=û h (λ_=>I) (k) vO;have S:=S.view0 TN XO;have rJ:k<m.length:=by have:=lZ hc4; have:=å dZ; omega
  obtain⟨b23,o24,rfl,y29,hx27,P6,P7⟩:=û h' (λ_=>I) (k) rJ;have S:=S.view0 P6 P7;refine Ą S 9 [.idx k l.length,.M 1 0,.idx k m.length,.M 0 0,.cmp .neq 163 (.tmp 19) (.tmp 23) (.agg #[.i x21.verb,.i x21.a.x,.i x21.a.y,.i x21.b.x,.i x21.b.y,.i x21.c.x,.i x21.c.y]) (.agg #[.i y29.verb,.i y29.a.x,.i y29.a.y,.i y29.b.x,.i y29.b.y,.i y29.c.x,.i y29.c.y]) (.b (!((x21.verb==y29.verb)&&((x21.a.x==y29.a.x)&&((x21.a.y==y29.a.y)&&((x21.b.x==y29.b.x)&&((x21.b.y==y29.b.y)&&((x21.c.x==y29.c.x)&&(x21.c.y==y29.c.y)))))))))] [] [(24,.b (!((x21.verb==y29.verb)&&((x21.a.x==y29.a.x)&&((x21.a.y==y29.a.y)&&((x21.b.x==y29.b.x)&&((x21.b.y==y29.b.y)&&((x21.c.x==y29.c.x)&&(x21.c.y==y29.c.y)))))))))] trivial (hk:=⟨vO,rJ,ħ (λ_=>aiX ..) X,G⟩) λu vV S=>È S (!((x21.verb==y29.verb)&&((x21.a.x==y29.a.x)&&((x21.a.y==y29.a.y)&&((x21.b.x==y29.b.x)&&((x21.b.y==y29.b.y)&&((x21.c.x==y29.c.x)&&(x21.c.y==y29.c.y)))))))) (λhc31 S=>?_) (λhc31 S=>?_)
  .refine Æ S (.z) (λS=>?_);exact⟨aC (rQ vO rJ (λe=>by have hq:=hc31; rw[JV,hx27]at e; subst e; simp at hq)),S.E⟩
  refine Å S 2 [] [.re 25 (.i (IntKind.i64.wrap ((k:Int)+1))) (.i (k+1:Nat))] (hk:=⟨ą Z,G⟩) λS=>ė S ig (λS=>?_);exact fC _ _ (k+1) ⟨Z,(nK vO rJ hR (by rw[JV,hx27]; exact adh hc31)),S.oK⟩ (by show _-_<_-_; omega)
 refine Æ S (.b true) (λS=>?_);exact⟨aC (rU (by have:=ñ dZ; omega) (lZ hc4) hR),S.E⟩
abbrev XP{l m:List fH}(h:aI 5 fH.cells w v l)(h':aI 5 fH.cells w u m) :
  Ä prog 183 #[v,u] w (RF w (.b (l=m))):=by
 obtain⟨a,cap,rfl⟩:=h.shape;obtain⟨d,cap',rfl⟩:=h'.shape;have hmax:l.length<=9223372036854775807:=h.len;refine Ë func183 ntmps183 λS=>È S (((l.length:Int)) != (m.length:Int)) (λhc4 S=>?_) (λhc4 S=>?_)
 .refine Æ S (.z) (λS=>?_);exact⟨aC (nJ hc4),S.E⟩
 refine ĕ S (ι:=Nat) (λp a' w'=>p<=l.length∧(l.take p=m.take p)∧Sx.St w a' w' 26 [(0,.s a l.length cap),(1,.s d m.length cap'),(4,.z),(12,.i l.length),(13,.i p)] [] []) (λp=>l.length-p) (0) (λS=>⟨Õ _,I,S.oK⟩) ?_;rintro k ac u ig fC hI;try dsimp only at hI
 obtain⟨hk,hR,S⟩:=hI;refine Ė S λS=>È S (decide ((k:Int)<(l.length:Int))) (λdZ S=>?_) (λdZ S=>?_)
 .have vO:k<l.length:=by have:=å dZ; omega
  obtain⟨b15,o16,rfl,x21,JV,TN,XO⟩:=û h (λ_=>I) (k) vO;have S:=S.view0 TN XO;have rJ:k<m.length:=by have:=lZ hc4; have:=å dZ; omega
  obtain⟨b23,o24,rfl,y29,hx27,P6,P7⟩:=û h' (λ_=>I) (k) rJ;have S:=S.view0 P6 P7;refine Ą S 9 [.idx k l.length,.M 1 0,.idx k m.length,.M 0 0,.cmp .neq 202 (.tmp 19) (.tmp 23) (.agg #[.i x21.o,.u (x21.c.r.toNat:Int),.u (x21.c.g.toNat:Int),.u (x21.c.b.toNat:Int),.u (x21.c.a.toNat:Int)]) (.agg #[.i y29.o,.u (y29.c.r.toNat:Int),.u (y29.c.g.toNat:Int),.u (y29.c.b.toNat:Int),.u (y29.c.a.toNat:Int)]) (.b (!((x21.o==y29.o)&&(((x21.c.r.toNat:Int)==(y29.c.r.toNat:Int))&&(((x21.c.g.toNat:Int)==(y29.c.g.toNat:Int))&&(((x21.c.b.toNat:Int)==(y29.c.b.toNat:Int))&&((x21.c.a.toNat:Int)==(y29.c.a.toNat:Int))))))))] [] [(24,.b (!((x21.o==y29.o)&&(((x21.c.r.toNat:Int)==(y29.c.r.toNat:Int))&&(((x21.c.g.toNat:Int)==(y29.c.g.toNat:Int))&&(((x21.c.b.toNat:Int)==(y29.c.b.toNat:Int))&&((x21.c.a.toNat:Int)==(y29.c.a.toNat:Int))))))))] trivial (hk:=⟨vO,rJ,ħ (λ_=>adi ..) X,G⟩) λu vV S=>È S (!((x21.o==y29.o)&&(((x21.c.r.toNat:Int)==(y29.c.r.toNat:Int))&&(((x21.c.g.toNat:Int)==(y29.c.g.toNat:Int))&&(((x21.c.b.toNat:Int)==(y29.c.b.toNat:Int))&&((x21.c.a.toNat:Int)==(y29.c.a.toNat:Int))))))) (λhc31 S=>?_) (λhc31 S=>?_)
  .refine Æ S (.z) (λS=>?_);exact⟨aC (rQ vO rJ (λe=>by have hq:=hc31; rw[JV,hx27]at e; subst e; simp at hq)),S.E⟩
  refine Å S 2 [] [.re 25 (.i (IntKind.i64.wrap ((k:Int)+1))) (.i (k+1:Nat))] (hk:=⟨ą Z,G⟩) λS=>ė S ig (λS=>?_);exact fC _ _ (k+1) ⟨Z,(nK vO rJ hR (by rw[JV,hx27]; exact YF hc31)),S.oK⟩ (by show _-_<_-_; omega)
 refine Æ S (.b true) (λS=>?_);exact⟨aC (rU (by have:=ñ dZ; omega) (lZ hc4) hR),S.E⟩
abbrev abI{l m:List bQ}(h:aI 4 bQ.cells w v l)(h':aI 4 bQ.cells w u m) :
  Ä prog 185 #[v,u] w (RF w (.b (l=m))):=by
 obtain⟨a,cap,rfl⟩:=h.shape;obtain⟨d,cap',rfl⟩:=h'.shape;have hmax:l.length<=9223372036854775807:=h.len;refine Ë func185 ntmps185 λS=>È S (((l.length:Int)) != (m.length:Int)) (λhc4 S=>?_) (λhc4 S=>?_)
 .refine Æ S (.z) (λS=>?_);exact⟨aC (nJ hc4),S.E⟩
 refine ĕ S (ι:=Nat) (λp a' w'=>p<=l.length∧(l.take p=m.take p)∧Sx.St w a' w' 26 [(0,.s a l.length cap),(1,.s d m.length cap'),(4,.z),(12,.i l.length),(13,.i p)] [] []) (λp=>l.length-p) (0) (λS=>⟨Õ _,I,S.oK⟩) ?_;rintro k ac u ig fC hI;try dsimp only at hI
 obtain⟨hk,hR,S⟩:=hI;refine Ė S λS=>È S (decide ((k:Int)<(l.length:Int))) (λdZ S=>?_) (λdZ S=>?_)
 .have vO:k<l.length:=by have:=å dZ; omega
  obtain⟨b15,o16,rfl,x21,JV,TN,XO⟩:=û h (λ_=>I) (k) vO;have S:=S.view0 TN XO;have rJ:k<m.length:=by have:=lZ hc4; have:=å dZ; omega
  obtain⟨b23,o24,rfl,y29,hx27,P6,P7⟩:=û h' (λ_=>I) (k) rJ;have S:=S.view0 P6 P7;refine Ą S 9 [.idx k l.length,.M 1 0,.idx k m.length,.M 0 0,.cmp .neq 178 (.tmp 19) (.tmp 23) (.agg #[.u (x21.r.toNat:Int),.u (x21.g.toNat:Int),.u (x21.b.toNat:Int),.u (x21.a.toNat:Int)]) (.agg #[.u (y29.r.toNat:Int),.u (y29.g.toNat:Int),.u (y29.b.toNat:Int),.u (y29.a.toNat:Int)]) (.b (!(((x21.r.toNat:Int)==(y29.r.toNat:Int))&&(((x21.g.toNat:Int)==(y29.g.toNat:Int))&&(((x21.b.toNat:Int)==(y29.b.toNat:Int))&&((x21.a.toNat:Int)==(y29.a.toNat:Int)))))))] [] [(24,.b (!(((x21.r.toNat:Int)==(y29.r.toNat:Int))&&(((x21.g.toNat:Int)==(y29.g.toNat:Int))&&(((x21.b.toNat:Int)==(y29.b.toNat:Int))&&((x21.a.toNat:Int)==(y29.a.toNat:Int)))))))] trivial (hk:=⟨vO,rJ,ħ (λ_=>aiY ..) X,G⟩) λu vV S=>È S (!(((x21.r.toNat:Int)==(y29.r.toNat:Int))&&(((x21.g.toNat:Int)==(y29.g.toNat:Int))&&(((x21.b.toNat:Int)==(y29.b.toNat:Int))&&((x21.a.toNat:Int)==(y29.a.toNat:Int)))))) (λhc31 S=>?_) (λhc31 S=>?_)
  .refine Æ S (.z) (λS=>?_);exact⟨aC (rQ vO rJ (λe=>by have hq:=hc31; rw[JV,hx27]at e; subst e; simp at hq)),S.E⟩
  refine Å S 2 [] [.re 25 (.i (IntKind.i64.wrap ((k:Int)+1))) (.i (k+1:Nat))] (hk:=⟨ą Z,G⟩) λS=>ė S ig (λS=>?_);exact fC _ _ (k+1) ⟨Z,(nK vO rJ hR (by rw[JV,hx27]; exact VO hc31)),S.oK⟩ (by show _-_<_-_; omega)
 refine Æ S (.b true) (λS=>?_);exact⟨aC (rU (by have:=ñ dZ; omega) (lZ hc4) hR),S.E⟩
abbrev abJ{l m:List Int}(h:aI 1 (λx=>[AQ x]) w v l)(h':aI 1 (λx=>[AQ x]) w u m) :
  Ä prog 184 #[v,u] w (RF w (.b (l=m))):=by
 obtain⟨a,cap,rfl⟩:=h.shape;obtain⟨d,cap',rfl⟩:=h'.shape;have hmax:l.length<=9223372036854775807:=h.len;refine Ë func184 ntmps184 λS=>È S (((l.length:Int)) != (m.length:Int)) (λhc4 S=>?_) (λhc4 S=>?_)
 .refine Æ S (.z) (λS=>?_);exact⟨aC (nJ hc4),S.E⟩
 refine ĕ S (ι:=Nat) (λp a' w'=>p<=l.length∧(l.take p=m.take p)∧Sx.St w a' w' 26 [(0,.s a l.length cap),(1,.s d m.length cap'),(4,.z),(12,.i l.length),(13,.i p)] [] []) (λp=>l.length-p) (0) (λS=>⟨Õ _,I,S.oK⟩) ?_;rintro k ac u ig fC hI;try dsimp only at hI
 obtain⟨hk,hR,S⟩:=hI;refine Ė S λS=>È S (decide ((k:Int)<(l.length:Int))) (λdZ S=>?_) (λdZ S=>?_)
 .have vO:k<l.length:=by have:=å dZ; omega
  obtain⟨b15,o16,rfl,x21,JV,TN,XO⟩:=û h (λ_=>I) (k) vO;have S:=S.view0 TN XO;have rJ:k<m.length:=by have:=lZ hc4; have:=å dZ; omega
  obtain⟨b23,o24,rfl,y29,hx27,P6,P7⟩:=û h' (λ_=>I) (k) rJ;have S:=S.view0 P6 P7;refine Ą S 9 [.idx k l.length,.M 1 0,.idx k m.length,.M 0 0] [] [(24,.b ((x21) != y29))] trivial (hk:=⟨vO,rJ,G⟩) λu vV S=>È S ((x21) != y29) (λhc31 S=>?_) (λhc31 S=>?_)
  .refine Æ S (.z) (λS=>?_);exact⟨aC (rQ vO rJ (λe=>by have hq:=hc31; rw[JV,hx27]at e; subst e; simp at hq)),S.E⟩
  refine Å S 2 [] [.re 25 (.i (IntKind.i64.wrap ((k:Int)+1))) (.i (k+1:Nat))] (hk:=⟨ą Z,G⟩) λS=>ė S ig (λS=>?_);exact fC _ _ (k+1) ⟨Z,(nK vO rJ hR (by rw[JV,hx27]; exact ads hc31)),S.oK⟩ (by show _-_<_-_; omega)
 refine Æ S (.b true) (λS=>?_);exact⟨aC (rU (by have:=ñ dZ; omega) (lZ hc4) hR),S.E⟩
open Go.RowKit Go.Sx
variable{α:Type}
variable{w:Á}{k b:Nat}{m n:dA}{l:List fH}{p:α->Bool}{last:Int}{v:À}
abbrev abK(p:bQ):(((min (p.r.toNat:Int) (p.a.toNat:Int))==(p.r.toNat:Int))&&(((min (p.g.toNat:Int) (p.a.toNat:Int))==(p.g.toNat:Int))&&(((min (p.b.toNat:Int) (p.a.toNat:Int))==(p.b.toNat:Int))&&((min (p.a.toNat:Int) (p.a.toNat:Int))==(p.a.toNat:Int)))))=p.valid:=by
 have h:∀x y:UInt8,((min (x.toNat:Int) (y.toNat:Int))==(x.toNat:Int))=decide (x<=y):=by
  intro x y; rw[ĩ]; simp only[Û,Ý,UInt8.le_iff_toNat_le]; omega
 rw[h,h,h,h]; unfold bQ.valid; simp
abbrev pK{l:List α}(hk:l.length<=k)(h:(l.take k).all p=true):l.all p=true:=by rwa [Ĝ hk]at h
abbrev rP{l:List α}(hk:k<l.length)(h:p l[k]=false):l.all p=false:=by
 rw[List.all_eq_false]; exact⟨l[k],þ hk,by simp[h]⟩
abbrev jw{l:List α}(hk:k<l.length)(hR:(l.take k).all p=true)(h:p l[k]=true):(l.take (k+1)).all p=true:=by
 rw[ı hk,List.all_append,hR]; simp[h]
abbrev Ew{a b:Int}(ha:side a=true)(hb:side b=true):IntKind.i64.wrap (a*b)=a*b:=by
 simp only[side,æ,Ý]at ha hb;have h1:a*b<=4096*4096:=Int.le_trans (Int.mul_le_mul_of_nonneg_right ha.2 Z) (Int.mul_le_mul_of_nonneg_left hb.2 Z);have h0:0<=a*b:=Int.mul_nonneg Z Z;rw[Ř]; omega
abbrev Ux:((((!(side m.w))||(!(side m.h)))||(decide (65536<IntKind.i64.wrap (m.w*m.h))))||((m.l.length:Int) != IntKind.i64.wrap (m.w*m.h)))=((((!(side m.w))||(!(side m.h)))||(decide (65536<(m.w*m.h))))||((m.l.length:Int) != (m.w*m.h))):=by
 cases ha:side m.w<;>cases hb:side m.h<;>simp only[Bool.not_false,Bool.not_true,Bool.true_or,ayT,Bool.or_true];rw[Ew ha hb]
abbrev amn(h:((((!(side m.w))||(!(side m.h)))||(decide (65536<(m.w*m.h))))||((m.l.length:Int) != (m.w*m.h)))=true):false=m.valid:=by
 unfold dA.valid dA.size;revert h;cases side m.w<;>cases side m.h<;>simp;intro h h1 h2; omega
abbrev aiC(h:((((!(side m.w))||(!(side m.h)))||(decide (65536<(m.w*m.h))))||((m.l.length:Int) != (m.w*m.h)))=false):(!(!(m.l.all bQ.valid)))=m.valid:=by
 unfold dA.valid dA.size;revert h;cases side m.w<;>cases side m.h<;>simp;intro h h1; rw[h1]; simp[h]
abbrev amo:((m.w==n.w)&&(m.h==n.h)&&decide (m.l=n.l))=m.eq n:=by
 unfold dA.eq;rw[ayF];by_cases h:m.l=n.l<;>simp[h]
abbrev abL(h:((decide ((l.length:Int)<1))||(decide (16<(l.length:Int))))=true):false=dR l:=by
 unfold dR;simp only[ŷ,Ý]at h;rcases h with h | h
 .rw[ľ Z]; rfl
 rw[ľ (p:=l.length<=16) Z]; simp
abbrev Uy(h:((decide ((l.length:Int)<1))||(decide (16<(l.length:Int))))=false):dR l=dF 0 l:=by
 unfold dR;simp only[Ĕ,ð]at h;rw[İ (p:=1<=l.length) Z,İ (p:=l.length<=16) Z]; rfl
abbrev abM(h:((decide ((l.length:Int)<1))||(decide (16<(l.length:Int))))=false)(hk:l.length<=k)(hR:dF 0 l=dF last (l.drop k)):true=dR l:=by
 rw[Uy h,hR,Ń hk]; rfl
abbrev abN(h:((decide ((l.length:Int)<1))||(decide (16<(l.length:Int))))=false)(hk:k<l.length)(hR:dF 0 l=dF last (l.drop k))(hb:((decide (l[k].o<last))||(decide (65536<l[k].o)))=true):false=dR l:=by
 rw[Uy h,hR,Ķ hk,dF];simp only[ŷ,Ý]at hb;rcases hb with hb | hb
 .rw[ľ Z]; rfl
 rw[ľ (p:=l[k].o<=65536) Z]; simp
abbrev XQ(hk:k<l.length)(hR:dF 0 l=dF last (l.drop k))(hb:((decide (l[k].o<last))||(decide (65536<l[k].o)))=false):dF 0 l=dF l[k].o (l.drop (k+1)):=by
 rw[hR,Ķ hk,dF];simp only[Ĕ,ð]at hb;rw[İ (p:=last<=l[k].o) Z,İ (p:=l[k].o<=65536) Z]; rfl
abbrev vP(p:bQ)(x:Int)(hx:Bx w b #[.u (p.r.toNat:Int),.u (p.g.toNat:Int),.u (p.b.toNat:Int),.u (p.a.toNat:Int)]) :
  Ä prog 307 #[.u x,.q b 0] w λe w'=>e = .R (.u (min x (p.a.toNat:Int)))∧w=w':=by
 skip;refine Ë func307 ntmps307 (λS=>?_);have S:=S.view0 hx.1 (hx.range 0 4 I);refine Å S 6 [] [.M 0 3,.re 7 (.u (if (p.a.toNat:Int)<x then (p.a.toNat:Int)else x)) (.u (min x (p.a.toNat:Int)))] (hk:=⟨amq,G⟩) λS=>Æ S (.u (min x (p.a.toNat:Int))) (λS=>?_);exact⟨I,I⟩
abbrev afY(p:bQ)(hx:Bx w b #[.u (p.r.toNat:Int),.u (p.g.toNat:Int),.u (p.b.toNat:Int),.u (p.a.toNat:Int)]) :
  Ä prog 306 #[.agg #[.u (p.r.toNat:Int),.u (p.g.toNat:Int),.u (p.b.toNat:Int),.u (p.a.toNat:Int)],.func (.func 307) #[] #[.q b 0]] w (RF w (.agg #[.u (min (p.r.toNat:Int) (p.a.toNat:Int)),.u (min (p.g.toNat:Int) (p.a.toNat:Int)),.u (min (p.b.toNat:Int) (p.a.toNat:Int)),.u (min (p.a.toNat:Int) (p.a.toNat:Int))])):=by
 skip;refine Ë func306 ntmps306 (λS=>?_);have S:=S.view0 hx.1 (hx.range 0 4 I);refine Í S λu b2 E3 hb4 S=>Í S λu b5 E6 hb7 S=>Ą S 17 [.M 1 0,.M 1 1,.M 1 2,.M 1 3] [(_,_,true,.u (min (p.r.toNat:Int) (p.a.toNat:Int))),(_,_,true,.u (min (p.g.toNat:Int) (p.a.toNat:Int))),(_,_,true,.u (min (p.b.toNat:Int) (p.a.toNat:Int))),(_,_,true,.u (min (p.a.toNat:Int) (p.a.toNat:Int)))] [(21,.agg #[.u (min (p.r.toNat:Int) (p.a.toNat:Int)),.u (min (p.g.toNat:Int) (p.a.toNat:Int)),.u (min (p.b.toNat:Int) (p.a.toNat:Int)),.u (min (p.a.toNat:Int) (p.a.toNat:Int))])] ⟨λu hC g=>Đ (vP p (p.r.toNat:Int) (hx.ext (Ã S.E hC))),λu hC g=>Đ (vP p (p.g.toNat:Int) (hx.ext (Ã S.E hC))),λu hC g=>Đ (vP p (p.b.toNat:Int) (hx.ext (Ã S.E hC))),λu hC g=>Đ (vP p (p.a.toNat:Int) (hx.ext (Ã S.E hC))),G⟩ λu E9 S=>à S 0 I λu C10 S=>ă S 0 I (v := .agg #[.u (min (p.r.toNat:Int) (p.a.toNat:Int)),.u (min (p.g.toNat:Int) (p.a.toNat:Int)),.u (min (p.b.toNat:Int) (p.a.toNat:Int)),.u (min (p.a.toNat:Int) (p.a.toNat:Int))]) (λS=>?_);exact⟨I,S.E⟩
abbrev XR(p:bQ)(w:Á) :
  Ä prog 277 #[.agg #[.u (p.r.toNat:Int),.u (p.g.toNat:Int),.u (p.b.toNat:Int),.u (p.a.toNat:Int)]] w (RF w (.agg #[.u (min (p.r.toNat:Int) (p.a.toNat:Int)),.u (min (p.g.toNat:Int) (p.a.toNat:Int)),.u (min (p.b.toNat:Int) (p.a.toNat:Int)),.u (min (p.a.toNat:Int) (p.a.toNat:Int))])):=by
 skip;refine Ë func277 ntmps277 λS=>Í S λu b2 E3 hb4 S=>Í S λu b5 E6 hb7 S=>Å S 2 [] [.M 1 0] λS=>Þ S (afY p (S.pV 1)) λu E9 S=>à S 0 I λu C10 S=>ă S 0 I (v := .agg #[.u (min (p.r.toNat:Int) (p.a.toNat:Int)),.u (min (p.g.toNat:Int) (p.a.toNat:Int)),.u (min (p.b.toNat:Int) (p.a.toNat:Int)),.u (min (p.a.toNat:Int) (p.a.toNat:Int))]) (λS=>?_);exact⟨I,S.E⟩
abbrev P8(p:bQ)(w:Á) :
  Ä prog 237 #[.agg #[.u (p.r.toNat:Int),.u (p.g.toNat:Int),.u (p.b.toNat:Int),.u (p.a.toNat:Int)]] w (RF w (.b p.valid)):=by
 skip;refine Ë func237 ntmps237 λS=>Í S λu b2 E3 hb4 S=>Ą S 4 [.M 0 0,.M 0 0,.cmp .eql 178 (.tmp 4) (.tmp 5) (.agg #[.u (min (p.r.toNat:Int) (p.a.toNat:Int)),.u (min (p.g.toNat:Int) (p.a.toNat:Int)),.u (min (p.b.toNat:Int) (p.a.toNat:Int)),.u (min (p.a.toNat:Int) (p.a.toNat:Int))]) (.agg #[.u (p.r.toNat:Int),.u (p.g.toNat:Int),.u (p.b.toNat:Int),.u (p.a.toNat:Int)]) (.b (((min (p.r.toNat:Int) (p.a.toNat:Int))==(p.r.toNat:Int))&&(((min (p.g.toNat:Int) (p.a.toNat:Int))==(p.g.toNat:Int))&&(((min (p.b.toNat:Int) (p.a.toNat:Int))==(p.b.toNat:Int))&&((min (p.a.toNat:Int) (p.a.toNat:Int))==(p.a.toNat:Int))))))] [(_,_,true,.agg #[.u (min (p.r.toNat:Int) (p.a.toNat:Int)),.u (min (p.g.toNat:Int) (p.a.toNat:Int)),.u (min (p.b.toNat:Int) (p.a.toNat:Int)),.u (min (p.a.toNat:Int) (p.a.toNat:Int))])] [(6,.b (((min (p.r.toNat:Int) (p.a.toNat:Int))==(p.r.toNat:Int))&&(((min (p.g.toNat:Int) (p.a.toNat:Int))==(p.g.toNat:Int))&&(((min (p.b.toNat:Int) (p.a.toNat:Int))==(p.b.toNat:Int))&&((min (p.a.toNat:Int) (p.a.toNat:Int))==(p.a.toNat:Int))))))] ⟨λu hC g=>XR p _,G⟩ (hk:=⟨ħ (λ_=>aou ..) X,G⟩) λu E6 S=>Æ S (.b (((min (p.r.toNat:Int) (p.a.toNat:Int))==(p.r.toNat:Int))&&(((min (p.g.toNat:Int) (p.a.toNat:Int))==(p.g.toNat:Int))&&(((min (p.b.toNat:Int) (p.a.toNat:Int))==(p.b.toNat:Int))&&((min (p.a.toNat:Int) (p.a.toNat:Int))==(p.a.toNat:Int)))))) (λS=>?_);exact⟨aC (abK p),S.E⟩
abbrev XT(p:bQ)(w:Á) :
  Ä prog 236 #[.agg #[.u (p.r.toNat:Int),.u (p.g.toNat:Int),.u (p.b.toNat:Int),.u (p.a.toNat:Int)]] w (RF w (.b (!p.valid))):=by
 skip;refine Ë func236 ntmps236 λS=>Í S λu b2 E3 hb4 S=>Å S 2 [] [.M 0 0] λS=>Þ S (P8 p _) λu E6 S=>Æ S (.b (!p.valid)) (λS=>?_);exact⟨I,S.E⟩
abbrev P9{l:List bQ}(h:aI 4 bQ.cells w v l) :
  Ä prog 276 #[v,.func (.func 236) #[] #[]] w λe w'=>∃z,e = .R (.i z)∧decide (0<=z) = !(l.all bQ.valid)∧Ext w w':=by
 obtain⟨a,cap,rfl⟩:=h.shape;have hmax:l.length<=9223372036854775807:=h.len;refine Ë func276 ntmps276 λS=>ĕ S (ι:=Nat) (λp a' w'=>p<=l.length∧((l.take p).all bQ.valid=true)∧Sx.St w a' w' 19 [(0,.s a l.length cap),(1,.func (.func 236) #[] #[]),(4,.i 0),(7,.i l.length),(8,.i p)] [] []) (λp=>l.length-p) (0) (λS=>⟨Õ _,I,S.oK⟩) ?_;rintro k ac u ig fC hI;try dsimp only at hI
 obtain⟨hk,hR,S⟩:=hI;refine Ė S λS=>È S (decide ((k:Int)<(l.length:Int))) (λhc6 S=>?_) (λhc6 S=>?_)
 .have qx:k<l.length:=by have:=å hc6; omega
  obtain⟨b10,o11,rfl,x16,wH,FY,Ja⟩:=û h (λ_=>I) (k) qx;have S:=S.view0 FY Ja;refine Å S 7 [] [.idx k l.length,.M 0 0] (hk:=⟨qx,G⟩) λS=>Þ S (XT x16 _) λu BG S=>È S (!x16.valid) (λhc19 S=>?_) (λhc19 S=>?_)
  .refine Æ S (.i k) (λS=>?_);exact⟨_,I,by rw[rP qx (by rw[wH]; simpa using hc19)]; simp,S.E⟩
  refine Å S 2 [] [.re 18 (.i (IntKind.i64.wrap ((k:Int)+1))) (.i (k+1:Nat))] (hk:=⟨ą Z,G⟩) λS=>ė S ig (λS=>?_);exact fC _ _ (k+1) ⟨Z,(jw qx hR (by rw[wH]; simpa using hc19)),S.oK⟩ (by show _-_<_-_; omega)
 refine Æ S (.i (-1)) (λS=>?_);exact⟨_,I,by rw[pK (by have:=ñ hc6; omega) hR]; rfl,S.E⟩
abbrev Uz{l:List bQ}(h:aI 4 bQ.cells w v l) :
  Ä prog 235 #[v,.func (.func 236) #[] #[]] w (RF w (.b (!(l.all bQ.valid)))):=by
 skip;refine Ë func235 ntmps235 λS=>î S (P9 (h.below S.E)) ?_;rintro e u ⟨z,rfl,hz,E3⟩;refine⟨_,I,E3,λS=>?_⟩;refine Æ S (.b (0<=z)) (λS=>?_);exact⟨aC hz,S.E⟩
abbrev UA(n:Int)(w:Á) :
  Ä prog 234 #[.i n] w λe w'=>e = .R (.b (side n))∧w=w':=by
 skip;refine Ë func234 ntmps234 λS=>Æ S (.b ((decide (1<=n))&&(decide (n<=4096)))) (λS=>?_);exact⟨I,I⟩
abbrev DC(h:m.ok w) :
  Ä prog 195 #[m.v] w (RF w (.b m.valid)):=by
 obtain⟨a,cap,hs⟩:=h.2.2.shape;unfold dA.v;have hq:=h.2.2;rw[hs];rw[hs]at hq;refine Ë func195 ntmps195 λS=>Í S λu b2 E3 hb4 S=>Å S 5 [] [.M 0 0] λS=>jc S (UA m.w _) λS=>ě S 27 [.M 0 1,.M 0 0,.M 0 1,.M 0 2,.M 0 0,.M 0 1] [(_,_,(!(!(side m.w))),.b (side m.h))] [(34,.b ((((!(side m.w))||(!(side m.h)))||(decide (65536<(IntKind.i64.wrap (m.w*m.h)))))||(((m.l.length:Int)) != (IntKind.i64.wrap (m.w*m.h)))))] ⟨λu hC g=>Đ (UA m.h _),G⟩ λu E8 S=>È S ((((!(side m.w))||(!(side m.h)))||(decide (65536<(IntKind.i64.wrap (m.w*m.h)))))||(((m.l.length:Int)) != (IntKind.i64.wrap (m.w*m.h)))) (λzB S=>?_) (λzB S=>?_)
 .refine Æ S (.z) (λS=>?_);exact⟨aC (amn (Ux▸zB)),S.E⟩
 refine Å S 2 [] [.M 0 2] λS=>Þ S (Uz (hq.below S.E)) λu uM S=>Æ S (.b (!(!(m.l.all bQ.valid)))) (λS=>?_);exact⟨aC (aiC (Ux▸zB)),S.E⟩
abbrev uZ(h:m.ok w)(h':n.ok w) :
  Ä prog 141 #[m.v,n.v] w (RF w (.b (m.eq n))):=by
 skip;refine Ë func141 ntmps141 λS=>Í S λu b2 E3 hb4 S=>Í S λu b5 E6 hb7 S=>Å S 1 [] [] λS=>ě S 20 [.M 1 0,.M 0 0,.M 1 1,.M 0 1,.M 1 2,.M 0 2] [(_,_,(((m.w)==n.w)&&((m.h)==n.h)),.b (m.l=n.l))] [(4,.b ((((m.w)==n.w)&&((m.h)==n.h))&&(decide (m.l=n.l))))] ⟨λu hC g=>abI (h.2.2.below (Ã S.E hC)) (h'.2.2.below (Ã S.E hC)),G⟩ λu E9 S=>Æ S (.b ((((m.w)==n.w)&&((m.h)==n.h))&&(decide (m.l=n.l)))) (λS=>?_);exact⟨aC amo,S.E⟩
abbrev Ll(h:aI 5 fH.cells w v l) :
  Ä prog 331 #[v] w (RF w (.b (dR l))):=by
 obtain⟨a,cap,rfl⟩:=h.shape;have hmax:l.length<=9223372036854775807:=h.len;refine Ë func331 ntmps331 λS=>È S ((decide ((l.length:Int)<1))||(decide (16<(l.length:Int)))) (λhc4 S=>?_) (λhc4 S=>?_)
 .refine Æ S (.z) (λS=>?_);exact⟨aC (abL hc4),S.E⟩
 refine ĕ S (ι:=Nat×Int) (λp a' w'=>p.1<=l.length∧(dF 0 l=dF p.2 (l.drop p.1))∧Sx.St w a' w' 32 [(0,.s a l.length cap),(2,.z),(3,.i p.2),(14,.s a l.length cap),(15,.i l.length),(16,.i p.1)] [] []) (λp=>l.length-p.1) (0,0) (λS=>⟨Õ _,I,S.oK⟩) ?_;rintro⟨k,last⟩ ac u ig fC hI;try dsimp only at hI
 obtain⟨hk,hR,S⟩:=hI;refine Ė S λS=>È S (decide ((k:Int)<(l.length:Int))) (λfV S=>?_) (λfV S=>?_)
 .have mX:k<l.length:=by have:=å fV; omega
  obtain⟨b14,o15,rfl,x20,sU,DX,Ii⟩:=û h (λ_=>I) (k) mX;have S:=S.view0 DX Ii;refine Å S 2 [] [.idx k l.length,.M 0 0] (hk:=⟨mX,G⟩) λS=>Í S λu b22 Qv Xu S=>à S 0 I λu Ϝ S=>Å S 9 [] [.M 0 0,.M 0 0] λS=>È S ((decide (x20.o<last))||(decide (65536<x20.o))) (λhc28 S=>?_) (λhc28 S=>?_)
  .refine Æ S (.z) (λS=>?_);exact⟨aC (abN hc4 mX hR (by rw[sU]; exact hc28)),S.E⟩
  refine Å S 5 [] [.M 0 0,.re 31 (.i (IntKind.i64.wrap ((k:Int)+1))) (.i (k+1:Nat))] (hk:=⟨ą Z,G⟩) λS=>ė S ig (λS=>?_);exact fC _ _ ((k+1),x20.o) ⟨Z,(by rw[<-sU]; exact XQ mX hR (by rw[sU]; exact hc28)),(S.l9 1).oK⟩ (by show _-_<_-_; omega)
 refine Æ S (.b true) (λS=>?_);exact⟨aC (abM hc4 (by have:=ñ fV; omega) hR),S.E⟩
abbrev afZ(n:Int)(w:Á) :
  Ä prog 193 #[.i n] w λe w'=>e = .R (.b (decide (1<=n)&&decide (n<=13)))∧w=w':=by
 skip;refine Ë func193 ntmps193 λS=>Æ S (.b ((decide (1<=n))&&(decide (n<=13)))) (λS=>?_);exact⟨I,I⟩
abbrev JW(n:Int)(w:Á) :
  Ä prog 305 #[.i n] w λe w'=>e = .R (.b (fZ n))∧w=w':=by
 skip;refine Ë func305 ntmps305 λS=>Æ S (.b ((decide (1<=n))&&(decide (n<=3)))) (λS=>?_);exact⟨I,I⟩
abbrev af0(n:Int)(w:Á) :
  Ä prog 271 #[.i n] w λe w'=>e = .R (.b (decide (1<=n)&&decide (n<=16384)))∧w=w':=by
 skip;refine Ë func271 ntmps271 λS=>Æ S (.b ((decide (1<=n))&&(decide (n<=16384)))) (λS=>?_);exact⟨I,I⟩
open Go.RowKit Go.Sx
variable{α:Type}
def oJ(l s:List Int):Option Bool:=if s.all (λx=>decide (0<=x)&&decide (x<=1048576))then some (((l.length:Int)==0)||s.any (λx=>decide (0<x)))else none
def lI(l:List Int):Bool:=l.all (λx=>decide (0<=x)&&decide (x<=1048576))&&((((((l.length:Int)==0)||l.any (λx=>decide (0<x)))&&((Int.tmod (l.length:Int) 2)==0))&&(decide ((l.length:Int)<=16))))
variable{l:List Int}{w:Á}{k:Nat}{any:Bool}{v:À}
abbrev Nu(l:List Int):oJ l (l.take 0)=some ((l.length:Int)==0):=by simp[oJ]
abbrev Nv(hk:k<l.length)(hR:oJ l (l.take k)=some any)(hb:((decide (l[k]<0))||(decide (1048576<l[k])))=false):oJ l (l.take (k+1))=some (any||(decide (0<l[k]))):=by
 unfold oJ at hR |-;rw[ı hk,List.all_append,List.any_append];simp only[Ĕ,ð]at hb;split at hR
 .rename_i h;obtain rfl:=Ü hR;rw[h];simp[show 0<=l[k] by omega,show l[k]<=1048576 by omega,Bool.or_assoc]
 cases hR
abbrev UC(hk:k<l.length)(hR:oJ l (l.take k)=some any)(hb:((decide (l[k]<0))||(decide (1048576<l[k])))=true):false=lI l:=by
 simp only[ŷ,Ý]at hb;unfold lI;rw[rP hk (by simp; omega)]; rfl
abbrev UD(hk:l.length<=k)(hR:oJ l (l.take k)=some any):((any&&((Int.tmod (l.length:Int) 2)==0))&&(decide ((l.length:Int)<=16)))=lI l:=by
 unfold oJ at hR;rw[Ĝ hk]at hR;split at hR
 .rename_i h;obtain rfl:=Ü hR;unfold lI;rw[h]; rfl
 cases hR
def dK(b:Bool)(n:Int):À:=if b=true then .iface 213 (.agg #[.i n,.nilIface])else .nilIface
abbrev abO{b:Bool}{n:Int}{x:Operand}:∀w,(do eqGuard .neq 210 x (.const .nilIface) (dK b n) .nilIface; binOp .neq 210 (dK b n) .nilIface:Sem À).run prog w = .ok (.b (!(!b))) w:=λw=>by
 cases b<;>simp[dK,go_sem]
def kK:List (Bool×Int)->À
 | [] => .nilIface
 | p::l=>if p.1=true then .iface 213 (.agg #[.i 0,.iface 213 (.agg #[.i p.2,.nilIface])])else kK l
abbrev XU(h:dJ AQ w v l) :
  Ä prog 272 #[v] w (RF w (.b (lI l))):=by
 obtain⟨a,cap,rfl⟩:=(eF h).shape;have hmax:l.length<=9223372036854775807:=(eF h).len;refine Ë func272 ntmps272 λS=>ĕ S (ι:=Nat×Bool) (λp a' w'=>p.1<=l.length∧(oJ l (l.take p.1)=some p.2)∧Sx.St w a' w' 39 [(0,.s a l.length cap),(2,.z),(3,.b p.2),(9,.s a l.length cap),(10,.i l.length),(11,.i p.1)] [] []) (λp=>l.length-p.1) (0,((l.length:Int)==0)) (λS=>⟨Õ _,Nu l,S.oK⟩) ?_;rintro⟨k,any⟩ ac u ig fC hI;try dsimp only at hI
 obtain⟨hk,hR,S⟩:=hI;refine Ė S λS=>È S (decide ((k:Int)<(l.length:Int))) (λkP S=>?_) (λkP S=>?_)
 .have qx:k<l.length:=by have:=å kP; omega
  obtain⟨b10,o11,rfl,x16,wH,FY,Ja⟩:=û (eF h) (λ_=>I) (k) qx;have S:=S.view0 FY Ja;refine Å S 9 [] [.idx k l.length,.M 0 0] (hk:=⟨qx,G⟩) λS=>È S ((decide (x16<0))||(decide (1048576<x16))) (λrG S=>?_) (λrG S=>?_)
  .refine Æ S (.z) (λS=>?_);exact⟨aC (UC qx hR (by rw[wH]; exact rG)),S.E⟩
  refine Å S 8 [] [.re 26 (.i (IntKind.i64.wrap ((k:Int)+1))) (.i (k+1:Nat))] (hk:=⟨ą Z,G⟩) λS=>ė S ig (λS=>?_);exact fC _ _ ((k+1),any||(decide (0<x16))) ⟨Z,(by rw[<-wH]; exact Nv qx hR (by rw[wH]; exact rG)),S.oK⟩ (by show _-_<_-_; omega)
 refine Æ S (.b ((any&&(((Int.tmod (l.length:Int) 2))==0))&&(decide ((l.length:Int)<=16)))) (λS=>?_);exact⟨aC (UD (by have:=ñ kP; omega) hR),S.E⟩
def aY.valid(p:aY):Bool:=(((((((decide (1<=p.width)&&decide (p.width<=16384))&&((((p.join)==1)||((p.join)==2))||((p.join)==3)))&&((((p.cap)==3)||((p.cap)==4))||((p.cap)==5)))&&(decide (256<=p.eu)))&&(decide (p.eu<=65536)))&&(lI p.dash))&&(decide (0<=p.phase)))&&(decide (p.phase<=1048576))
def aY.eq(p q:aY):Bool:=((((((p.width)==q.width)&&((p.join)==q.join))&&((p.cap)==q.cap))&&((p.eu)==q.eu))&&((p.phase)==q.phase))&&(decide (p.dash=q.dash))
abbrev abP{p:aY}(h:p.ok w) :
  Ä prog 232 #[p.v] w (RF w (.b p.valid)):=by
 skip;refine Ë func232 ntmps232 λS=>Í S λu b2 E3 hb4 S=>Å S 31 [] [.M 0 1,.M 0 1,.M 0 1,.M 0 2,.M 0 2,.M 0 2,.M 0 0] λS=>jc S (af0 p.width _) λS=>ě S 32 [.M 0 3,.M 0 3,.M 0 4,.M 0 5,.M 0 5] [(_,_,(((((decide (1<=p.width)&&decide (p.width<=16384))&&((((p.join)==1)||((p.join)==2))||((p.join)==3)))&&((((p.cap)==3)||((p.cap)==4))||((p.cap)==5)))&&(decide (256<=p.eu)))&&(decide (p.eu<=65536))),.b (lI p.dash))] [(2,.b ((((((((decide (1<=p.width)&&decide (p.width<=16384))&&((((p.join)==1)||((p.join)==2))||((p.join)==3)))&&((((p.cap)==3)||((p.cap)==4))||((p.cap)==5)))&&(decide (256<=p.eu)))&&(decide (p.eu<=65536)))&&(lI p.dash))&&(decide (0<=p.phase)))&&(decide (p.phase<=1048576))))] ⟨λu hC g=>XU (h.2.2.2.2.1.below (Ã S.E hC)),G⟩ λu E8 S=>Æ S (.b ((((((((decide (1<=p.width)&&decide (p.width<=16384))&&((((p.join)==1)||((p.join)==2))||((p.join)==3)))&&((((p.cap)==3)||((p.cap)==4))||((p.cap)==5)))&&(decide (256<=p.eu)))&&(decide (p.eu<=65536)))&&(lI p.dash))&&(decide (0<=p.phase)))&&(decide (p.phase<=1048576)))) (λS=>?_);exact⟨I,S.E⟩
abbrev wZ{p q:aY}(h:p.ok w)(h':q.ok w) :
  Ä prog 140 #[p.v,q.v] w (RF w (.b (p.eq q))):=by
 skip;refine Ë func140 ntmps140 λS=>Í S λu b2 E3 hb4 S=>Í S λu b5 E6 hb7 S=>Å S 1 [] [] λS=>ě S 41 [.M 1 0,.M 0 0,.M 1 1,.M 0 1,.M 1 2,.M 0 2,.M 1 3,.M 0 3,.M 1 5,.M 0 5,.M 1 4,.M 0 4] [(_,_,((((((p.width)==q.width)&&((p.join)==q.join))&&((p.cap)==q.cap))&&((p.eu)==q.eu))&&((p.phase)==q.phase)),.b (p.dash=q.dash))] [(4,.b (((((((p.width)==q.width)&&((p.join)==q.join))&&((p.cap)==q.cap))&&((p.eu)==q.eu))&&((p.phase)==q.phase))&&(decide (p.dash=q.dash))))] ⟨λu hC g=>abJ (eF (h.2.2.2.2.1.below (Ã S.E hC))) (eF (h'.2.2.2.2.1.below (Ã S.E hC))),G⟩ λu E9 S=>Æ S (.b (((((((p.width)==q.width)&&((p.join)==q.join))&&((p.cap)==q.cap))&&((p.eu)==q.eu))&&((p.phase)==q.phase))&&(decide (p.dash=q.dash)))) (λS=>?_);exact⟨I,S.E⟩
abbrev UE(n:Int)(w:Á) :
  Ä prog 186 #[.i n] w λe w'=>e = .R (.b ((n==1)||(n==2)))∧w=w':=by
 skip;refine Ë func186 ntmps186 λS=>Æ S (.b (((n)==1)||((n)==2))) (λS=>?_);exact⟨I,I⟩
abbrev je(b:Bool)(n:Int)(w:Á) :
  Ä prog 188 #[.b b,.i n] w λe w'=>e = .R (dK b n)∧w=w':=by
 skip;refine Ë func188 ntmps188 λS=>È S (!b) (λhc4 S=>?_) (λhc4 S=>?_)
 .refine Æ S (.nilIface) (λS=>?_);obtain rfl:b=false:=by simpa using hc4
  exact⟨I,I⟩
 refine Æ S (.iface 213 (.agg #[.i n,.nilIface])) (λS=>?_);obtain rfl:b=true:=by simpa using hc4
 exact⟨I,I⟩
abbrev first_any{l:List (Bool×Int)}(h:aI 1 (λp=>[dK p.1 p.2]) w v l) :
  Ä prog 187 #[v] w (RF w (kK l)):=by
 obtain⟨a,cap,rfl⟩:=h.shape;have hmax:l.length<=9223372036854775807:=h.len;refine Ë func187 ntmps187 λS=>ĕ S (ι:=Nat) (λp a' w'=>p<=l.length∧(kK l=kK (l.drop p))∧Sx.St w a' w' 17 [(0,.s a l.length cap),(2,.nilIface),(5,.s a l.length cap),(6,.i l.length),(7,.i p)] [] []) (λp=>l.length-p) (0) (λS=>⟨Õ _,I,S.oK⟩) ?_;rintro k ac u ig fC hI;try dsimp only at hI
 obtain⟨hk,hR,S⟩:=hI;refine Ė S λS=>È S (decide ((k:Int)<(l.length:Int))) (λhc6 S=>?_) (λhc6 S=>?_)
 .have ku:k<l.length:=by have:=å hc6; omega
  obtain⟨b9,o10,rfl,x15,pJ,hb16,Ih⟩:=û h (λ_=>I) (k) ku;have S:=S.view0 hb16 Ih;refine Å S 5 [] [.idx k l.length,.M 0 0,.cmp .neq 210 (.tmp 11) (.const .nilIface) (dK x15.1 x15.2) .nilIface (.b (!(!x15.1)))] (hk:=⟨ku,abO,G⟩) λS=>È S (!(!x15.1)) (λhc18 S=>?_) (λhc18 S=>?_)
  .have hb:x15.1=true:=by simpa using hc18
   rw[show dK x15.1 x15.2 = .iface 213 (.agg #[.i x15.2,.nilIface])from Ï hb]at S;try rw[show dK x15.1 x15.2 = .iface 213 (.agg #[.i x15.2,.nilIface])from Ï hb]
   refine Æ S (.iface 213 (.agg #[.i 0,.iface 213 (.agg #[.i x15.2,.nilIface])])) (λS=>?_);exact⟨by rw[hR,Ķ ku,pJ,kK,Ï hb],S.E⟩
  refine Å S 2 [] [.re 16 (.i (IntKind.i64.wrap ((k:Int)+1))) (.i (k+1:Nat))] (hk:=⟨ą Z,G⟩) λS=>ė S ig (λS=>?_);exact fC _ _ (k+1) ⟨Z,(by rw[hR,Ķ ku,pJ,kK,É (by simpa using hc18)]),S.oK⟩ (by show _-_<_-_; omega)
 refine Æ S (.nilIface) (λS=>?_);exact⟨by rw[hR,Ń (by have:=ñ hc6; omega)]; rfl,S.E⟩
end
section
open Go.RowKit Go.Sx
variable{α:Type}
variable{n:Nat}{p q:Bool×Nat×Nat}
abbrev Ey(v:À)(Q:Q6)(K:Nat)(w:Á)(h:jI K w v Q)(hK:K<=100000) :
  Ä prog 180 #[v] w λe w'=>∃x,e = .R x∧tC w.heap.size w' x Q∧Ext w w':=by
 obtain⟨t,rfl,h0,h1,h2,h3,h4,h5⟩:=h.sQ;refine Ë func180 ntmps180 λS=>Ú S t.cells λu b2 E3 hb4 S=>Ú S Sx.za λu b5 E6 hb7 S=>Å S 13 [] [.M 1 0,.M 1 4,.M 1 8,.M 1 12,.M 1 16,.M 1 20] λS=>Ú S Sx.za λu b9 NQ OJ S=>è S 0 (off:=0) (cs:=t.cells) I λu C12 S=>Å S 2 [] [.M 0 0] λS=>Qu S 6 λS=>â S λS=>Ú S Sx.zr λu b19 DK DX S=>è S 0 (off:=0) (cs:=t.a.cells) I λu C22 S=>Å S 2 [] [.M 0 0] λS=>î S (jM _ _ K _ (h0.below S.E) Z) ?_;rintro e u ⟨x,rfl,x0,Qv⟩;obtain⟨r0,rfl⟩:=au.iL x0;have y0:=S.E.size;have z00:=(S.bx 0).1;have z01:=(S.bx 1).1;have z02:=(S.bx 2).1;have z03:=(S.bx 3).1;refine⟨_,I,Qv,λS=>?_⟩;refine è S 1 (off:=0) (cs:=r0.cells) I (λu LV S=>?_);have wz:=au.ch x0 LV Z;refine â S λS=>Ú S Sx.zr λu b30 DJ Q8 S=>è S 0 (off:=0) (cs:=t.b.cells) I (λu Yv S=>?_);have S:=S.fl;have Yw:=Ö DJ Yv;refine Å S 2 [] [.M 0 0] λS=>î S (jM _ _ K _ (h1.below S.E) Z) ?_;rintro e u ⟨x,rfl,x1,Qo⟩;obtain⟨r1,rfl⟩:=au.iL x1;have y1:=S.E.size;have z10:=(S.bx 0).1;have z11:=(S.bx 1).1;have z12:=(S.bx 2).1;have z13:=(S.bx 3).1;have z14:=(S.bx 4).1;refine⟨_,I,Qo,λS=>?_⟩;refine è S 2 (off:=4) (cs:=r1.cells) I (λu Ph S=>?_);have Dk:=au.ch (wz.ext (Ã Yw Qo)) Ph Z;have RV:=au.ch x1 Ph Z;refine â S λS=>Ú S Sx.zr λu b43 Ũ Xe S=>è S 0 (off:=0) (cs:=t.c.cells) I (λu ŭ S=>?_);have E47:=Ö Ũ ŭ;have Vx:=Ö Ũ ŭ;refine Å S 2 [] [.M 0 0] λS=>î S (jM _ _ K _ (h2.below S.E) Z) ?_;rintro e u ⟨x,rfl,x2,NW⟩;obtain⟨r2,rfl⟩:=au.iL x2;have y2:=S.E.size;have z20:=(S.bx 0).1;have z21:=(S.bx 1).1;have z22:=(S.bx 2).1;have z23:=(S.bx 3).1;have z24:=(S.bx 4).1;have z25:=(S.bx 5).1;refine⟨_,I,NW,λS=>?_⟩;refine è S 3 (off:=8) (cs:=r2.cells) I (λu C50 S=>?_);have Vw:=au.ch (Dk.ext (Ã E47 NW)) C50 Z;have FW:=au.ch (RV.ext (Ã Vx NW)) C50 Z;have OD:=au.ch x2 C50 Z;refine â S λS=>Ú S Sx.zr λu b58 θ asz S=>è S 0 (off:=0) (cs:=t.d.cells) I (λu C61 S=>?_);have S:=S.fl;have E62:=Ö θ C61;have ϳ:=Ö θ C61;have Ϟ:=Ö θ C61;refine Å S 2 [] [.M 0 0] λS=>î S (jM _ _ K _ (h3.below S.E) Z) ?_;rintro e u ⟨x,rfl,x3,ύ⟩;obtain⟨r3,rfl⟩:=au.iL x3;have y3:=S.E.size;have z30:=(S.bx 0).1;have z31:=(S.bx 1).1;have z32:=(S.bx 2).1;have z33:=(S.bx 3).1;have z34:=(S.bx 4).1;have z35:=(S.bx 5).1;have z36:=(S.bx 6).1;refine⟨_,I,ύ,λS=>?_⟩;refine è S 4 (off:=12) (cs:=r3.cells) I (λu C66 S=>?_);have ac3:=au.ch (Vw.ext (Ã E62 ύ)) C66 Z;have Vy:=au.ch (FW.ext (Ã ϳ ύ)) C66 Z;have Vz:=au.ch (OD.ext (Ã Ϟ ύ)) C66 Z;have akP:=au.ch x3 C66 Z;refine â S λS=>Ú S Sx.zr λu b75 Τ aph S=>è S 0 (off:=0) (cs:=t.e.cells) I (λu C78 S=>?_);have E79:=Ö Τ C78;have E80:=Ö Τ C78;have E81:=Ö Τ C78;have E82:=Ö Τ C78;refine Å S 2 [] [.M 0 0] λS=>î S (jM _ _ K _ (h4.below S.E) Z) ?_;rintro e u ⟨x,rfl,x4,ϟ⟩;obtain⟨r4,rfl⟩:=au.iL x4;have y4:=S.E.size;have z40:=(S.bx 0).1;have z41:=(S.bx 1).1;have z42:=(S.bx 2).1;have z43:=(S.bx 3).1;have z44:=(S.bx 4).1;have z45:=(S.bx 5).1;have z46:=(S.bx 6).1;have z47:=(S.bx 7).1;refine⟨_,I,ϟ,λS=>?_⟩;refine è S 5 (off:=16) (cs:=r4.cells) I (λu C84 S=>?_);have akS:=au.ch (ac3.ext (Ã E79 ϟ)) C84 Z;have RX:=au.ch (Vy.ext (Ã E80 ϟ)) C84 Z;have Wp:=au.ch (Vz.ext (Ã E81 ϟ)) C84 Z;have adK:=au.ch (akP.ext (Ã E82 ϟ)) C84 Z;have adL:=au.ch x4 C84 Z;refine â S λS=>Ú S Sx.zr λu b94 E95 avz S=>è S 0 (off:=0) (cs:=t.f.cells) I (λu C97 S=>?_);have S:=S.fl;have E98:=Ö E95 C97;have E99:=Ö E95 C97;have asA:=Ö E95 C97;have aiD:=Ö E95 C97;have asB:=Ö E95 C97;refine Å S 2 [] [.M 0 0] λS=>î S (jM _ _ K _ (h5.below S.E) Z) ?_;rintro e u ⟨x,rfl,x5,abQ⟩;obtain⟨r5,rfl⟩:=au.iL x5;have y5:=S.E.size;have z50:=(S.bx 0).1;have z51:=(S.bx 1).1;have z52:=(S.bx 2).1;have z53:=(S.bx 3).1;have z54:=(S.bx 4).1;have z55:=(S.bx 5).1;have z56:=(S.bx 6).1;have z57:=(S.bx 7).1;have z58:=(S.bx 8).1;refine⟨_,I,abQ,λS=>?_⟩;refine è S 6 (off:=20) (cs:=r5.cells) I (λu abR S=>?_);have aey:=au.ch (akS.ext (Ã E98 abQ)) abR Z;have aez:=au.ch (RX.ext (Ã E99 abQ)) abR Z;have aeA:=au.ch (Wp.ext (Ã asA abQ)) abR Z;have aeB:=au.ch (adK.ext (Ã aiD abQ)) abR Z;have aov:=au.ch (adL.ext (Ã asB abQ)) abR Z;have aow:=au.ch x5 abR Z;refine ú S λS=>Å S 1 [] [.M 6 0] λS=>è S 7 (off:=0) (cs:=(r0.cells++r1.cells++r2.cells++r3.cells++r4.cells++r5.cells)) I (λu abS S=>?_);have aox:=au.ch aey abS Z;have aoy:=au.ch aez abS Z;have aoz:=au.ch aeA abS Z;have aoA:=au.ch aeB abS Z;have aoB:=au.ch aov abS Z;have aoC:=au.ch aow abS Z;refine ă S 7 I (v := .agg (r0.cells++r1.cells++r2.cells++r3.cells++r4.cells++r5.cells).toArray) (λS=>?_);exact⟨_,I,eG.of (t:=⟨r0,r1,r2,r3,r4,r5⟩) (au.mono aox Z) (au.mono aoy Z) (au.mono aoz Z) (au.mono aoA Z) (au.mono aoB Z) (au.mono aoC Z),S.E⟩
abbrev dS(h:decide (256<(n:Int))=false):decide (n<=256)=true:=by
 simp only[Ý,ð]at h |-;omega
abbrev vW(h:decide (256<(n:Int))=true):decide (n<=256)=false:=by
 simp only[Ý,ð]at h |-;omega
abbrev jB(h:(jH p q != 0)=false):pW p q=true:=by unfold pW; simpa[bne]using h
abbrev Nw(h:(jH p q != 0)=true):pW p q=false:=by unfold pW; simpa[bne]using h
abbrev JX(v:À)(Q:Q6)(K:Nat)(w:Á)(h:jI K w v Q)(hK1:1<=K)(hK:K<=100000) :
  Ä prog 189 #[v] w (RF w (.b Q.valid)):=by
 have hq:=h;obtain⟨nr0,nr1,nr2,nr3,nr4,nr5⟩:=h.nrm;obtain⟨ϴ,ϵ,Ϸ,ϸ,ln4,ln5⟩:=h.len hK1;obtain⟨t,rfl,h0,h1,h2,h3,h4,h5⟩:=h.sQ;refine Ë func189 ntmps189 λS=>Í S λu b2 E3 hb4 S=>Å S 2 [] [.M 0 0] λS=>î S (Ey _ Q K _ (hq.fB S.E) Z) ?_;rintro e u ⟨x,rfl,hm,E7⟩;obtain⟨m,rfl,-⟩:=hm.sT;refine⟨_,I,E7,λS=>?_⟩;refine Qu S 6 λS=>â S λS=>Í S λu b12 zu Tj S=>à S 0 I (λu C15 S=>?_);have LU:=Ö zu C15;refine Å S 1 [] [.M 0 0] λS=>Þ S (nO _ Q.a K _ (au.toQ (hm.uJ LU).pa nr0 ϴ) hK1 Z) λu BG S=>È S (decide (256<(bV Q.a:Int))) (λhc19 S=>?_) (λhc19 S=>?_)
 .have g0:decide (bV Q.a<=256)=false:=vW hc19;refine Æ S (.z) (λS=>?_);exact⟨by rw[show Q.valid=false from by simp[Q6.valid,g0]],S.E⟩
 refine â S λS=>Í S λu b25 Qn Oj S=>à S 0 I (λu Xk S=>?_);have BF:=Ö (Ã LU (Ã BG Qn)) Xk (by have:=(Ã LU BG).size; omega);refine Å S 1 [] [.M 0 0] λS=>Þ S (nO _ Q.b K _ (au.toQ (hm.uJ BF).pb nr1 ϵ) hK1 Z) λu DJ S=>È S (decide (256<(bV Q.b:Int))) (λhc32 S=>?_) (λhc32 S=>?_)
 .have g0:decide (bV Q.a<=256)=true:=dS hc19;have g1:decide (bV Q.b<=256)=false:=vW hc32;refine Æ S (.z) (λS=>?_);exact⟨by rw[show Q.valid=false from by simp[Q6.valid,g0,g1]],S.E⟩
 refine â S λS=>Í S λu b38 U1 adR S=>à S 0 I (λu C41 S=>?_);have E42:=Ö (Ã BF (Ã DJ U1)) C41 (by have:=(Ã BF DJ).size; omega);refine Å S 1 [] [.M 0 0] λS=>Þ S (nO _ Q.c K _ (au.toQ (hm.uJ E42).pc nr2 Ϸ) hK1 Z) λu Ũ S=>È S (decide (256<(bV Q.c:Int))) (λAw S=>?_) (λAw S=>?_)
 .have g0:decide (bV Q.a<=256)=true:=dS hc19;have g1:decide (bV Q.b<=256)=true:=dS hc32;have g2:decide (bV Q.c<=256)=false:=vW Aw;refine Æ S (.z) (λS=>?_);exact⟨by rw[show Q.valid=false from by simp[Q6.valid,g0,g1,g2]],S.E⟩
 refine â S λS=>Í S λu b51 E52 avA S=>à S 0 I (λu C54 S=>?_);have S:=S.fl;have E55:=Ö (Ã E42 (Ã Ũ E52)) C54 (by have:=(Ã E42 Ũ).size; omega);refine Å S 1 [] [.M 0 0] λS=>Þ S (nO _ Q.d K _ (au.toQ (hm.uJ E55).pd nr3 ϸ) hK1 Z) λu E57 S=>È S (decide (256<(bV Q.d:Int))) (λaf2 S=>?_) (λaf2 S=>?_)
 .have g0:decide (bV Q.a<=256)=true:=dS hc19;have g1:decide (bV Q.b<=256)=true:=dS hc32;have g2:decide (bV Q.c<=256)=true:=dS Aw;have g3:decide (bV Q.d<=256)=false:=vW af2;refine Æ S (.z) (λS=>?_);exact⟨by rw[show Q.valid=false from by simp[Q6.valid,g0,g1,g2,g3]],S.E⟩
 refine â S λS=>Í S λu b64 ύ avC S=>à S 0 I (λu C67 S=>?_);have E68:=Ö (Ã E55 (Ã E57 ύ)) C67 (by have:=(Ã E55 E57).size; omega);refine Å S 1 [] [.M 0 0] λS=>Þ S (nO _ Q.e K _ (au.toQ (hm.uJ E68).pe nr4 ln4) hK1 Z) λu E70 S=>È S (decide (256<(bV Q.e:Int))) (λaiE S=>?_) (λaiE S=>?_)
 .have g0:decide (bV Q.a<=256)=true:=dS hc19;have g1:decide (bV Q.b<=256)=true:=dS hc32;have g2:decide (bV Q.c<=256)=true:=dS Aw;have g3:decide (bV Q.d<=256)=true:=dS af2;have g4:decide (bV Q.e<=256)=false:=vW aiE;refine Æ S (.z) (λS=>?_);exact⟨by rw[show Q.valid=false from by simp[Q6.valid,g0,g1,g2,g3,g4]],S.E⟩
 refine â S λS=>Í S λu b77 E78 avD S=>à S 0 I (λu C80 S=>?_);have E81:=Ö (Ã E68 (Ã E70 E78)) C80 (by have:=(Ã E68 E70).size; omega);refine Å S 1 [] [.M 0 0] λS=>Þ S (nO _ Q.f K _ (au.toQ (hm.uJ E81).pf nr5 ln5) hK1 Z) λu ϟ S=>È S (decide (256<(bV Q.f:Int))) (λamr S=>?_) (λamr S=>?_)
 .have g0:decide (bV Q.a<=256)=true:=dS hc19;have g1:decide (bV Q.b<=256)=true:=dS hc32;have g2:decide (bV Q.c<=256)=true:=dS Aw;have g3:decide (bV Q.d<=256)=true:=dS af2;have g4:decide (bV Q.e<=256)=true:=dS aiE;have g5:decide (bV Q.f<=256)=false:=vW amr;refine Æ S (.z) (λS=>?_);exact⟨by rw[show Q.valid=false from by simp[Q6.valid,g0,g1,g2,g3,g4,g5]],S.E⟩
 refine ú S (λS=>?_);have g0:decide (bV Q.a<=256)=true:=dS hc19;have g1:decide (bV Q.b<=256)=true:=dS hc32;have g2:decide (bV Q.c<=256)=true:=dS Aw;have g3:decide (bV Q.d<=256)=true:=dS af2;have g4:decide (bV Q.e<=256)=true:=dS aiE;have g5:decide (bV Q.f<=256)=true:=dS amr;refine Æ S (.b true) (λS=>?_);exact⟨by rw[show Q.valid=true from by simp[Q6.valid,g0,g1,g2,g3,g4,g5]],S.E⟩
abbrev Zz(v:À)(Q:Q6)(K:Nat)(w:Á)(h:jI K w v Q)(hK1:1<=K)(hK:K<=10000) :
  Ä prog 230 #[v] w λe w'=>∃x,e = .R x∧bF w.heap.size w' x Q.wE∧Ext w w':=by
 have hq:=h;obtain⟨nr0,nr1,nr2,nr3,nr4,nr5⟩:=h.nrm;obtain⟨ϴ,ϵ,Ϸ,ϸ,ln4,ln5⟩:=h.len hK1;obtain⟨t,rfl,h0,h1,h2,h3,h4,h5⟩:=h.sQ;refine Ë func230 ntmps230 λS=>Ú S t.cells λu b2 E3 hb4 S=>Ú S Sx.zr λu b5 E6 hb7 S=>Į S 11 [(7,λv w1=>bF w.heap.size w1 v (oU Q.a Q.d)),(12,λv w1=>bF w.heap.size w1 v (oU Q.b Q.c)),(13,λv w1=>bF w.heap.size w1 v Q.wE)] (λr=>[.M 1 0,.M 1 12,.M 1 4,.M 1 8]) (λx=>[x 7,x 12,x 13]) (λx=>[(_,_,true,x 7,7),(_,_,true,x 12,12),(_,_,true,x 13,13)]) [[],[],[7,12]] (λx=>[(13,x 13)]) ⟨λ_ _ _ k h=>h.ext k,λ_ _ _ k h=>h.ext k,λ_ _ _ k h=>h.ext k,G⟩ (λx=>⟨by intro u hC g F; exact(Uo _ _ Q.a Q.d K K _ (h0.below (Ã S.E hC)) (h3.below (Ã S.E hC)) hK1 hK1 Z Z).mono λe w2 h=>by obtain⟨y,rfl,hx,hb⟩:=h; exact⟨_,I,hx.mono ((Ã S.E hC)).size,hb⟩,by intro u hC g F; exact(Uo _ _ Q.b Q.c K K _ (h1.below (Ã S.E hC)) (h2.below (Ã S.E hC)) hK1 hK1 Z Z).mono λe w2 h=>by obtain⟨y,rfl,hx,hb⟩:=h; exact⟨_,I,hx.mono ((Ã S.E hC)).size,hb⟩,by intro u hC g F; obtain⟨F7,KC,-⟩:=F; exact(afV _ _ (oU Q.a Q.d) (oU Q.b Q.c) (K+K) (K+K) _ (au.toQ F7 (Ib _ _) (uj hK1 ϴ ϸ)) (au.toQ KC (Ib _ _) (uj hK1 ϵ Ϸ)) Z Z Z Z).mono λe w2 h=>by obtain⟨y,rfl,hx,hb⟩:=h; exact⟨_,I,hx.mono ((Ã S.E hC)).size,hb⟩,G⟩) (λu x E9 F S=>?_);obtain⟨F7,KC,U0,-⟩:=F;obtain⟨m,em⟩:=au.iL U0;rw[em]at S U0;try rw[em]
 have Qs:=S.bx 0;refine è S 0 (off:=0) (cs:=m.cells) I (λu C10 S=>?_);have Az:=au.dG U0 C10 Qs;refine ă S 0 I (v:=m.v) (λS=>?_);exact⟨_,I,Az,S.E⟩
abbrev AB(v1 v2:À)(P Q:Q6)(K:Nat)(w:Á)(hp:jI K w v1 P)(hq:jI K w v2 Q)(hK1:1<=K)(hK:K<=10000) :
  Ä prog 136 #[v1,v2] w (RF w (.b (P.eq Q))):=by
 obtain⟨pr0,pr1,pr2,pr3,pr4,pr5⟩:=hp.nrm;obtain⟨pl0,pl1,pl2,pl3,pl4,pl5⟩:=hp.len hK1;obtain⟨nr0,nr1,nr2,nr3,nr4,nr5⟩:=hq.nrm;obtain⟨ϴ,ϵ,Ϸ,ϸ,ln4,ln5⟩:=hq.len hK1;obtain⟨t,rfl,-⟩:=hp.sQ;obtain⟨s,rfl,-⟩:=hq.sQ;refine Ë func136 ntmps136 λS=>Í S λu b2 E3 hb4 S=>Í S (λu b5 E6 hb7 S=>?_);have hold:=λp hp=>(S.own p hp).1.1;have lg:=S.E.size;refine Ů S Tryz.f136 1 λS id=>š X<|N7 [(4,5),(5,6)] S 6 [(10,λv w1=>tC w.heap.size w1 v P),(12,λv w1=>tC w.heap.size w1 v Q),(5,iK u.heap.size Sx.za none),(6,iK u.heap.size Sx.za none)] (λr=>[.M 1 0,.M 0 0,.new 5 Sx.za none r,.new 6 Sx.za none r]) (λx=>[x 10,x 12,x 5,x 6]) (λx=>[(_,_,true,x 10,10),(_,_,true,x 12,12)]) [[],[]] (λx=>[(5,x 5),(6,x 6),(10,x 10),(12,x 12)]) ⟨λ_ _ _ k h=>eG.uJ h k,λ_ _ _ k h=>eG.uJ h k,iK.mono,iK.mono,G⟩ (λx=>⟨by intro u hC g F; exact(Ey _ P K _ (hp.fB (Ã S.E hC)) Z).mono λe w2 h=>by obtain⟨x,rfl,hx,hb⟩:=h; exact⟨_,I,hx.ajr ((Ã S.E hC)).size,hb⟩,by intro u hC g F; exact(Ey _ Q K _ (hq.fB (Ã S.E hC)) Z).mono λe w2 h=>by obtain⟨x,rfl,hx,hb⟩:=h; exact⟨_,I,hx.ajr ((Ã S.E hC)).size,hb⟩,G⟩) (hN:=λr=>⟨⟨I,I⟩,⟨I,I⟩,G⟩) (hk:=λr=>⟨G,G,G⟩) (hA:=⟨⟨_,_,_,I,I,I,I,I⟩,⟨_,_,_,I,I,I,I,I⟩,G⟩) λac u x E9 F AP S=>Sr S (λS=>?_);obtain⟨F10,KC,F5,F6,-⟩:=F;obtain⟨m,em,-⟩:=F10.sT;rw[em]at S F10;try rw[em]
 obtain⟨n,em,-⟩:=KC.sT;rw[em]at S KC;try rw[em]
 obtain⟨b10,F5,BQ,Qs⟩:=F5;rw[F5]at S;try rw[F5]
 have S:=S.adopt (A:=Sx.za) Qs Z (λp hp=>by have:=hold p hp; omega) (λm hm=>by cases hm);obtain⟨b13,F6,ac6,BD⟩:=F6;rw[F6]at S;try rw[F6]
 have S:=S.adopt (A:=Sx.za) BD Z (λp hp=>by exact(ç.1 hp).elim (λe e2=>AP (4,5) Y (5,6) Y O (F5.trans ((Ñ (Z5 none) ((Ñ Prod.fst e).symm.trans e2)).trans F6.symm))) (λhp=>by have:=hold p hp; omega)) (λm hm=>by cases hm);have Yn:=S.bx 1;refine à S 1 I (λu Ź S=>?_);have Am:=eG.dG F10 Ź Yn;have pI:=eG.dG KC Ź Yn;have Υ:=S.bx 0;refine à S 0 I (λu Ia S=>?_);have qQ:=eG.dG Am Ia Υ;have FM:=eG.dG pI Ia Υ;refine Å S 2 [] [.M 1 0] λS=>Qu S 6 λS=>â S λS=>Í S λu b30 DJ Q8 S=>à S 0 I (λu Yv S=>?_);have Yw:=Ö DJ Yv;have Qo:=Ö DJ Yv;refine Ą S 6 [.M 0 0,.M 1 0] [(_,_,true,.i (jH P.a Q.a))] [(23,.b (((jH P.a Q.a)) != 0))] ⟨λu hC g=>mG _ _ P.a Q.a K K _ (au.toQ (qQ.uJ (Ã Yw hC)).pa pr0 pl0) (au.toQ (FM.uJ (Ã Qo hC)).pa nr0 ϴ) hK1 hK1 Z Z,G⟩ λu H8 S=>È S (((jH P.a Q.a)) != 0) (λhc38 S=>?_) (λhc38 S=>?_)
 .have g0:pW P.a Q.a=false:=Nw hc38;refine Æ S (.z) (λS=>?_);exact⟨by rw[show P.eq Q=false from by simp[Q6.eq,g0]],S.E⟩
 refine â S λS=>Í S λu b44 ϝ ahL S=>à S 0 I (λu C47 S=>?_);have S:=S.fl;have Vx:=Ö (Ã Yw (Ã H8 ϝ)) C47 (by have:=(Ã Yw H8).size; omega);have NW:=Ö (Ã Qo (Ã H8 ϝ)) C47 (by have:=(Ã Qo H8).size; omega);refine Ą S 6 [.M 0 0,.M 2 4] [(_,_,true,.i (jH P.b Q.b))] [(23,.b (((jH P.b Q.b)) != 0))] ⟨λu hC g=>mG _ _ P.b Q.b K K _ (au.toQ (qQ.uJ (Ã Vx hC)).pb pr1 pl1) (au.toQ (FM.uJ (Ã NW hC)).pb nr1 ϵ) hK1 hK1 Z Z,G⟩ λu E51 S=>È S (((jH P.b Q.b)) != 0) (λwC S=>?_) (λwC S=>?_)
 .have g0:pW P.a Q.a=true:=jB hc38;have g1:pW P.b Q.b=false:=Nw wC;refine Æ S (.z) (λS=>?_);exact⟨by rw[show P.eq Q=false from by simp[Q6.eq,g0,g1]],S.E⟩
 refine â S λS=>Í S λu b58 θ asz S=>à S 0 I (λu C61 S=>?_);have E62:=Ö (Ã Vx (Ã E51 θ)) C61 (by have:=(Ã Vx E51).size; omega);have ϳ:=Ö (Ã NW (Ã E51 θ)) C61 (by have:=(Ã NW E51).size; omega);refine Ą S 6 [.M 0 0,.M 3 8] [(_,_,true,.i (jH P.c Q.c))] [(23,.b (((jH P.c Q.c)) != 0))] ⟨λu hC g=>mG _ _ P.c Q.c K K _ (au.toQ (qQ.uJ (Ã E62 hC)).pc pr2 pl2) (au.toQ (FM.uJ (Ã ϳ hC)).pc nr2 Ϸ) hK1 hK1 Z Z,G⟩ λu ύ S=>È S (((jH P.c Q.c)) != 0) (λabT S=>?_) (λabT S=>?_)
 .have g0:pW P.a Q.a=true:=jB hc38;have g1:pW P.b Q.b=true:=jB wC;have g2:pW P.c Q.c=false:=Nw abT;refine Æ S (.z) (λS=>?_);exact⟨by rw[show P.eq Q=false from by simp[Q6.eq,g0,g1,g2]],S.E⟩
 refine â S λS=>Í S λu b72 E73 apg S=>à S 0 I (λu C75 S=>?_);have Τ:=Ö (Ã E62 (Ã ύ E73)) C75 (by have:=(Ã E62 ύ).size; omega);have E77:=Ö (Ã ϳ (Ã ύ E73)) C75 (by have:=(Ã ϳ ύ).size; omega);refine Ą S 6 [.M 0 0,.M 4 12] [(_,_,true,.i (jH P.d Q.d))] [(23,.b (((jH P.d Q.d)) != 0))] ⟨λu hC g=>mG _ _ P.d Q.d K K _ (au.toQ (qQ.uJ (Ã Τ hC)).pd pr3 pl3) (au.toQ (FM.uJ (Ã E77 hC)).pd nr3 ϸ) hK1 hK1 Z Z,G⟩ λu E79 S=>È S (((jH P.d Q.d)) != 0) (λaf4 S=>?_) (λaf4 S=>?_)
 .have g0:pW P.a Q.a=true:=jB hc38;have g1:pW P.b Q.b=true:=jB wC;have g2:pW P.c Q.c=true:=jB abT;have g3:pW P.d Q.d=false:=Nw af4;refine Æ S (.z) (λS=>?_);exact⟨by rw[show P.eq Q=false from by simp[Q6.eq,g0,g1,g2,g3]],S.E⟩
 refine â S λS=>Í S λu b86 E87 apj S=>à S 0 I (λu C89 S=>?_);have E90:=Ö (Ã Τ (Ã E79 E87)) C89 (by have:=(Ã Τ E79).size; omega);have E91:=Ö (Ã E77 (Ã E79 E87)) C89 (by have:=(Ã E77 E79).size; omega);refine Ą S 6 [.M 0 0,.M 5 16] [(_,_,true,.i (jH P.e Q.e))] [(23,.b (((jH P.e Q.e)) != 0))] ⟨λu hC g=>mG _ _ P.e Q.e K K _ (au.toQ (qQ.uJ (Ã E90 hC)).pe pr4 pl4) (au.toQ (FM.uJ (Ã E91 hC)).pe nr4 ln4) hK1 hK1 Z Z,G⟩ λu E93 S=>È S (((jH P.e Q.e)) != 0) (λaiF S=>?_) (λaiF S=>?_)
 .have g0:pW P.a Q.a=true:=jB hc38;have g1:pW P.b Q.b=true:=jB wC;have g2:pW P.c Q.c=true:=jB abT;have g3:pW P.d Q.d=true:=jB af4;have g4:pW P.e Q.e=false:=Nw aiF;refine Æ S (.z) (λS=>?_);exact⟨by rw[show P.eq Q=false from by simp[Q6.eq,g0,g1,g2,g3,g4]],S.E⟩
 refine â S λS=>Í S λu avE aiD auI S=>à S 0 I (λu aoD S=>?_);have S:=S.fl;have asC:=Ö (Ã E90 (Ã E93 aiD)) aoD (by have:=(Ã E90 E93).size; omega);have asD:=Ö (Ã E91 (Ã E93 aiD)) aoD (by have:=(Ã E91 E93).size; omega);refine Ą S 6 [.M 0 0,.M 6 20] [(_,_,true,.i (jH P.f Q.f))] [(23,.b (((jH P.f Q.f)) != 0))] ⟨λu hC g=>mG _ _ P.f Q.f K K _ (au.toQ (qQ.uJ (Ã asC hC)).pf pr5 pl5) (au.toQ (FM.uJ (Ã asD hC)).pf nr5 ln5) hK1 hK1 Z Z,G⟩ λu avF S=>È S (((jH P.f Q.f)) != 0) (λaf5 S=>?_) (λaf5 S=>?_)
 .have g0:pW P.a Q.a=true:=jB hc38;have g1:pW P.b Q.b=true:=jB wC;have g2:pW P.c Q.c=true:=jB abT;have g3:pW P.d Q.d=true:=jB af4;have g4:pW P.e Q.e=true:=jB aiF;have g5:pW P.f Q.f=false:=Nw af5;refine Æ S (.z) (λS=>?_);exact⟨by rw[show P.eq Q=false from by simp[Q6.eq,g0,g1,g2,g3,g4,g5]],S.E⟩
 refine ú S (λS=>?_);have g0:pW P.a Q.a=true:=jB hc38;have g1:pW P.b Q.b=true:=jB wC;have g2:pW P.c Q.c=true:=jB abT;have g3:pW P.d Q.d=true:=jB af4;have g4:pW P.e Q.e=true:=jB aiF;have g5:pW P.f Q.f=true:=jB af5;refine Æ S (.b true) (λS=>?_);exact⟨by rw[show P.eq Q=true from by simp[Q6.eq,g0,g1,g2,g3,g4,g5]],S.E⟩
def bn.none:bn:=⟨false,Option.none,0,[],false,Option.none,0,[]⟩
abbrev K06:bn.none.q=q0:=by decide
def aT.none:aT:=⟨.none,.none,.none,.none,.none,.none⟩
abbrev bn.fQ(w:Á):bn.none.ok w:=⟨⟨Option.none,0,I,Õ _,.inl ⟨I,λ_=>rfl⟩⟩,⟨Option.none,0,I,Õ _,.inl ⟨I,λ_=>rfl⟩⟩⟩
abbrev bn.gQ(K:Nat):bn.none.fit K:=⟨Õ _,Õ _⟩
abbrev aT.fQ(w:Á):aT.none.ok w:=⟨bn.fQ w,bn.fQ w,bn.fQ w,bn.fQ w,bn.fQ w,bn.fQ w⟩
abbrev aT.gQ(K:Nat):aT.none.fit K:=⟨bn.gQ K,bn.gQ K,bn.gQ K,bn.gQ K,bn.gQ K,bn.gQ K⟩
def dA.bare:dA:=⟨0,0,Option.none,0,[]⟩
abbrev gW:I64 0:=⟨by decide,by decide⟩
abbrev dA.jr(w:Á):dA.bare.ok w:=⟨gW,gW,iR _ _ _⟩
def jP.none:jP:=⟨0,0⟩
abbrev jP.fQ:jP.none.ok:=⟨gW,gW⟩
def bQ.none:bQ:=⟨0,0,0,0⟩
def aj.bare(k:Int):aj:=⟨k,.none,.none,.none,0,Option.none,0,[],0,.bare,0,.none⟩
abbrev aj.jr{k:Int}(hk:I64 k)(w:Á):(aj.bare k).ok w:=⟨hk,jP.fQ,jP.fQ,gW,iR _ _ _,λs hs=>by simp[aj.bare]at hs,gW,dA.jr w,gW,aT.fQ w⟩
def aj.YB(p:aj):aj:={ p with t := .none,color := .none }
def aj.only2(p:aj):aj:={ p with t := .none,p0 := .none,p1 := .none,sva:=Option.none,svc:=0,stops:=[],spread:=0 }
def aj.YC(p:aj):aj:={ p with t := .none,p0 := .none,bG:=0,sva:=Option.none,svc:=0,stops:=[],spread:=0 }
def aj.YD(p:aj):aj:={ p with t := .none,img := .bare,spread:=0,dw:=0 }
def aj.adt(p:aj):aj:={ p with t := .none }
def aj.without(p:aj):aj:=cond (p.kind==1) p.YB (cond (p.kind==2) p.only2 (cond (p.kind==3) p.YC (cond (p.kind==4) p.YD p.adt)))
abbrev aj.XV{w:Á}{p:aj}(h:p.ok w):p.without.ok w:=by
 obtain⟨h1,h2,h3,h4,h5,h6,h7,h8,h9,h10⟩:=h;have a:=aT.fQ w;have r:=iR 5 fH.cells w;have n:∀s∈([]:List fH),s.ok:=λs hs=>by simp at hs
 unfold aj.without;cases (p.kind==1)<;>cases (p.kind==2)<;>cases (p.kind==3)<;>cases (p.kind==4);all_goals first
  | exact⟨h1,h2,h3,h4,h5,h6,h7,h8,h9,a⟩
  | exact⟨h1,jP.fQ,jP.fQ,h4,r,n,gW,h8,h9,a⟩
  | exact⟨h1,jP.fQ,h3,gW,r,n,gW,h8,h9,a⟩
  | exact⟨h1,h2,h3,h4,h5,h6,gW,dA.jr w,gW,a⟩
abbrev aj.UF(p:aj)(K:Nat):p.without.t.fit K:=by
 unfold aj.without;cases (p.kind==1)<;>cases (p.kind==2)<;>cases (p.kind==3)<;>cases (p.kind==4);all_goals exact aT.gQ K
abbrev vM(w:Á):dL 1 w (.agg #[.z,.sn,.z,.sn]) q0:=by
 rw[<-K06]; exact bn.toQ (r:=bn.none) (bn.fQ w) (bn.gQ 1)
abbrev yJ(Q:Q6):Ie Q.wE:=Ib _ _
abbrev yK{K:Nat}{Q:Q6}(hK:1<=K)(h:TP K Q):qlen (K+K+(K+K)+1) Q.wE:=afU (by omega) (uj hK h.1 h.2.2.2.1) (uj hK h.2.1 h.2.2.1)
abbrev K03{K:Nat}{w:Á}{v:À}{Q:Q6}(h:jI K w v Q)(hK:1<=K):TP K Q:=h.len hK
def aj.eq(p q:aj):Bool:=((((((((((p.kind)==q.kind)&&(((p.color.r.toNat:Int)==(q.color.r.toNat:Int))&&(((p.color.g.toNat:Int)==(q.color.g.toNat:Int))&&(((p.color.b.toNat:Int)==(q.color.b.toNat:Int))&&((p.color.a.toNat:Int)==(q.color.a.toNat:Int))))))&&((p.p0.x==q.p0.x)&&(p.p0.y==q.p0.y)))&&((p.p1.x==q.p1.x)&&(p.p1.y==q.p1.y)))&&((p.bG)==q.bG))&&((p.spread)==q.spread))&&((p.dw)==q.dw))&&(decide (p.stops=q.stops)))&&(p.img.eq q.img))&&(p.t.q.eq q.t.q)
def aj.valid(p:aj):Bool:=cond ((!(p.t.q.valid))||(!(p.without.eq (aj.bare p.kind)))) (false) (cond ((p.kind)==1) ((p.t.q.eq aT.none.q)) (cond ((p.kind)==2) (cond (((!(jP.valid ⟨p.p0.x,p.p0.y⟩))||(!(jP.valid ⟨p.p1.x,p.p1.y⟩)))||(!(dR p.stops&&fZ p.spread))) (false) (((jH p.t.q.wE q0)) != 0)) (cond ((p.kind)==3) (cond ((((!(jP.valid ⟨p.p0.x,p.p0.y⟩))||(decide (p.bG<1)))||(decide (1048576<p.bG)))||(!(dR p.stops&&fZ p.spread))) (false) (((jH p.t.q.wE q0)) != 0)) (cond ((p.kind)==4) (cond (((!(p.img.valid))||(((p.spread) != 0)&&(!(fZ p.spread))))||(((p.dw) != 1)&&((p.dw) != 2))) (false) (((jH p.t.q.wE q0)) != 0)) (false)))))
open Go.RowKit Go.Sx
variable{α:Type}
variable{w:Á}{p:aj}
abbrev wY{q:aj}{K:Nat}(h:p.ok w)(h':q.ok w)(hf:p.t.fit K)(hf':q.t.fit K)(hK1:1<=K)(hK:K<=10000) :
  Ä prog 139 #[p.v,q.v] w (RF w (.b (p.eq q))):=by
 skip;refine Ë func139 ntmps139 λS=>Í S λu b2 E3 hb4 S=>Í S λu b5 E6 hb7 S=>Å S 1 [] [] λS=>ě S 69 [.M 1 0,.M 0 0,.M 1 1,.M 0 1,.cmp .eql 40 (.tmp 12) (.tmp 14) (.agg #[.u (p.color.r.toNat:Int),.u (p.color.g.toNat:Int),.u (p.color.b.toNat:Int),.u (p.color.a.toNat:Int)]) (.agg #[.u (q.color.r.toNat:Int),.u (q.color.g.toNat:Int),.u (q.color.b.toNat:Int),.u (q.color.a.toNat:Int)]) (.b (((p.color.r.toNat:Int)==(q.color.r.toNat:Int))&&(((p.color.g.toNat:Int)==(q.color.g.toNat:Int))&&(((p.color.b.toNat:Int)==(q.color.b.toNat:Int))&&((p.color.a.toNat:Int)==(q.color.a.toNat:Int)))))),.M 1 5,.M 0 5,.cmp .eql 130 (.tmp 19) (.tmp 21) (.agg #[.i p.p0.x,.i p.p0.y]) (.agg #[.i q.p0.x,.i q.p0.y]) (.b ((p.p0.x==q.p0.x)&&(p.p0.y==q.p0.y))),.M 1 7,.M 0 7,.cmp .eql 130 (.tmp 26) (.tmp 28) (.agg #[.i p.p1.x,.i p.p1.y]) (.agg #[.i q.p1.x,.i q.p1.y]) (.b ((p.p1.x==q.p1.x)&&(p.p1.y==q.p1.y))),.M 1 9,.M 0 9,.M 1 11,.M 0 11,.M 1 15,.M 0 15,.M 1 10,.M 0 10,.M 1 12,.M 0 12,.M 1 16,.M 0 16] [(_,_,((((((((p.kind)==q.kind)&&(((p.color.r.toNat:Int)==(q.color.r.toNat:Int))&&(((p.color.g.toNat:Int)==(q.color.g.toNat:Int))&&(((p.color.b.toNat:Int)==(q.color.b.toNat:Int))&&((p.color.a.toNat:Int)==(q.color.a.toNat:Int))))))&&((p.p0.x==q.p0.x)&&(p.p0.y==q.p0.y)))&&((p.p1.x==q.p1.x)&&(p.p1.y==q.p1.y)))&&((p.bG)==q.bG))&&((p.spread)==q.spread))&&((p.dw)==q.dw)),.b (p.stops=q.stops)),(_,_,(((((((((p.kind)==q.kind)&&(((p.color.r.toNat:Int)==(q.color.r.toNat:Int))&&(((p.color.g.toNat:Int)==(q.color.g.toNat:Int))&&(((p.color.b.toNat:Int)==(q.color.b.toNat:Int))&&((p.color.a.toNat:Int)==(q.color.a.toNat:Int))))))&&((p.p0.x==q.p0.x)&&(p.p0.y==q.p0.y)))&&((p.p1.x==q.p1.x)&&(p.p1.y==q.p1.y)))&&((p.bG)==q.bG))&&((p.spread)==q.spread))&&((p.dw)==q.dw))&&(decide (p.stops=q.stops))),.b (p.img.eq q.img)),(_,_,((((((((((p.kind)==q.kind)&&(((p.color.r.toNat:Int)==(q.color.r.toNat:Int))&&(((p.color.g.toNat:Int)==(q.color.g.toNat:Int))&&(((p.color.b.toNat:Int)==(q.color.b.toNat:Int))&&((p.color.a.toNat:Int)==(q.color.a.toNat:Int))))))&&((p.p0.x==q.p0.x)&&(p.p0.y==q.p0.y)))&&((p.p1.x==q.p1.x)&&(p.p1.y==q.p1.y)))&&((p.bG)==q.bG))&&((p.spread)==q.spread))&&((p.dw)==q.dw))&&(decide (p.stops=q.stops)))&&(p.img.eq q.img)),.b (p.t.q.eq q.t.q))] [(4,.b (((((((((((p.kind)==q.kind)&&(((p.color.r.toNat:Int)==(q.color.r.toNat:Int))&&(((p.color.g.toNat:Int)==(q.color.g.toNat:Int))&&(((p.color.b.toNat:Int)==(q.color.b.toNat:Int))&&((p.color.a.toNat:Int)==(q.color.a.toNat:Int))))))&&((p.p0.x==q.p0.x)&&(p.p0.y==q.p0.y)))&&((p.p1.x==q.p1.x)&&(p.p1.y==q.p1.y)))&&((p.bG)==q.bG))&&((p.spread)==q.spread))&&((p.dw)==q.dw))&&(decide (p.stops=q.stops)))&&(p.img.eq q.img))&&(p.t.q.eq q.t.q)))] ⟨λu hC g=>XP (h.2.2.2.2.1.below (Ã S.E hC)) (h'.2.2.2.2.1.below (Ã S.E hC)),λu hC g=>uZ (m:=p.img) (n:=q.img) (h.2.2.2.2.2.2.2.1.below (Ã S.E hC)) (h'.2.2.2.2.2.2.2.1.below (Ã S.E hC)),λu hC g=>AB p.t.v q.t.v p.t.q q.t.q K _ ((aT.toQ h.2.2.2.2.2.2.2.2.2 hf).fB (Ã S.E hC)) ((aT.toQ h'.2.2.2.2.2.2.2.2.2 hf').fB (Ã S.E hC)) hK1 hK,G⟩ (hk:=⟨ħ (λ_=>LW ..) X,ħ (λ_=>eqPt ..) X,ħ (λ_=>eqPt ..) X,G⟩) λu E9 S=>Æ S (.b (((((((((((p.kind)==q.kind)&&(((p.color.r.toNat:Int)==(q.color.r.toNat:Int))&&(((p.color.g.toNat:Int)==(q.color.g.toNat:Int))&&(((p.color.b.toNat:Int)==(q.color.b.toNat:Int))&&((p.color.a.toNat:Int)==(q.color.a.toNat:Int))))))&&((p.p0.x==q.p0.x)&&(p.p0.y==q.p0.y)))&&((p.p1.x==q.p1.x)&&(p.p1.y==q.p1.y)))&&((p.bG)==q.bG))&&((p.spread)==q.spread))&&((p.dw)==q.dw))&&(decide (p.stops=q.stops)))&&(p.img.eq q.img))&&(p.t.q.eq q.t.q))) (λS=>?_);exact⟨I,S.E⟩
abbrev yu(h:p.ok w) :
  Ä prog 304 #[p.v] w (RF w (.b (dR p.stops&&fZ p.spread))):=by
 skip;refine Ë func304 ntmps304 λS=>Í S λu b2 E3 hb4 S=>Å S 3 [] [.M 0 10] λS=>Þ S (Ll (h.2.2.2.2.1.below S.E)) λu E6 S=>ě S 6 [.M 0 11] [(_,_,(dR p.stops),.b (fZ p.spread))] [(2,.b ((dR p.stops)&&(fZ p.spread)))] ⟨λu hC g=>Đ (JW p.spread _),G⟩ λu E7 S=>Æ S (.b ((dR p.stops)&&(fZ p.spread))) (λS=>?_);exact⟨I,S.E⟩
open Go.RowKit Go.Sx
variable{α:Type}
abbrev UG{w:Á}{p:aj}(h:p.ok w) :
  Ä prog 303 #[p.v] w (RF w p.without.v):=by
 obtain⟨h1,h2,h3,h4,h5,h6,h7,h8,h9,h10⟩:=h;obtain⟨t0,t1,t2,t3,t4,t5⟩:=h10;have o0:=Vp.aeQ h5;have o1:=Vp.aeQ h8.2.2;have o2:=Vp.mQ t0.1;have o3:=Vp.mQ t0.2;have o4:=Vp.mQ t1.1;have o5:=Vp.mQ t1.2;have o6:=Vp.mQ t2.1;have o7:=Vp.mQ t2.2;have o8:=Vp.mQ t3.1;have o9:=Vp.mQ t3.2;have o10:=Vp.mQ t4.1;have o11:=Vp.mQ t4.2;have o12:=Vp.mQ t5.1;have o13:=Vp.mQ t5.2;refine Ë func303 ntmps303 λS=>Í S λu b2 E3 hb4 S=>Í S λu b5 E6 hb7 S=>Å S 1 [] [.M 1 0] λS=>Í S λu b9 NQ OJ S=>à S 0 I λu C12 S=>à S 0 I λu C14 S=>Å S 4 [] [.M 2 0] λS=>È S ((p.kind)==1) (λhc18 S=>?_) (λhc18 S=>?_)
 .refine à S 0 I λu ũ S=>Å S 1 [] [.M 0 0] λS=>à S 1 I (λu C21 S=>?_);have S:=S.fl;have e:p.without=p.YB:=by unfold aj.without; rw[hc18]; rfl
  refine ă S 1 I (v := .agg (Sx.L [.i p.kind,.u 0,.u 0,.u 0,.u 0,.i p.p0.x,.i p.p0.y,.i p.p1.x,.i p.p1.y,.i p.bG,p.sv,.i p.spread]++p.img.cells++Sx.L [.i p.dw]++Sx.za).toArray) (λS=>?_);exact⟨by rw[e]; rfl,S.E⟩
 refine È S ((p.kind)==2) (λsN S=>?_) (λsN S=>?_)
 .refine à S 0 I λu LV S=>à S 0 I λu Ϝ S=>č S 0 I λu C26 S=>č S 0 I (λu YL S=>?_);have S:=S.fl;refine Å S 1 [] [.M 0 0] λS=>à S 1 I (λu Ū S=>?_);have e:p.without=p.only2:=by unfold aj.without; rw[hc18,sN]; rfl
  refine ă S 1 I (v := .agg (Sx.L [.i p.kind]++p.color.cells++Sx.L [.i 0,.i 0,.i 0,.i 0,.i p.bG,.sn,.i 0]++p.img.cells++Sx.L [.i p.dw]++Sx.za).toArray) (λS=>?_);exact⟨by rw[e]; rfl,S.E⟩
 refine È S ((p.kind)==3) (λhc31 S=>?_) (λhc31 S=>?_)
 .refine à S 0 I λu C32 S=>č S 0 I λu Yv S=>č S 0 I (λu C34 S=>?_);have S:=S.fl;refine č S 0 I λu C35 S=>Å S 1 [] [.M 0 0] λS=>à S 1 I (λu C37 S=>?_);have e:p.without=p.YC:=by unfold aj.without; rw[hc18,sN,hc31]; rfl
  refine ă S 1 I (v := .agg (Sx.L [.i p.kind]++p.color.cells++Sx.L [.i 0,.i 0,.i p.p1.x,.i p.p1.y,.i 0,.sn,.i 0]++p.img.cells++Sx.L [.i p.dw]++Sx.za).toArray) (λS=>?_);exact⟨by rw[e]; rfl,S.E⟩
 refine È S ((p.kind)==4) (λhc39 S=>?_) (λhc39 S=>?_)
 .refine à S 0 I λu C40 S=>č S 0 I (λu C41 S=>?_);have S:=S.fl;refine č S 0 I λu C42 S=>Å S 1 [] [.M 0 0] λS=>à S 1 I (λu C44 S=>?_);have e:p.without=p.YD:=by unfold aj.without; rw[hc18,sN,hc31,hc39]; rfl
  refine ă S 1 I (v := .agg (Sx.L [.i p.kind]++p.color.cells++Sx.L [.i p.p0.x,.i p.p0.y,.i p.p1.x,.i p.p1.y,.i p.bG,p.sv,.i 0,.i 0,.i 0,.sn,.i 0]++Sx.za).toArray) (λS=>?_);exact⟨by rw[e]; rfl,S.E⟩
 refine Å S 1 [] [.M 0 0] λS=>à S 1 I (λu ŭ S=>?_);have e:p.without=p.adt:=by unfold aj.without; rw[hc18,sN,hc31,hc39]; rfl
 refine ă S 1 I (v := .agg (Sx.L [.i p.kind]++p.color.cells++Sx.L [.i p.p0.x,.i p.p0.y,.i p.p1.x,.i p.p1.y,.i p.bG,p.sv,.i p.spread]++p.img.cells++Sx.L [.i p.dw]++Sx.za).toArray) (λS=>?_);exact⟨by rw[e]; rfl,S.E⟩
open Go.RowKit Go.Sx
variable{α:Type}
variable{w:Á}{p:aj}
abbrev JY{K:Nat}(h:p.ok w)(hf:p.t.fit K)(hK1:1<=K)(hK:K<=10000) :
  Ä prog 275 #[p.v] w (RF w (.b p.valid)):=by
 skip;refine Ë func275 ntmps275 λS=>Í S λu b2 E3 hb4 S=>Ą S 13 [.M 0 16,.M 0 0,.M 0 0] [(_,_,true,.b (p.t.q.valid)),(_,_,(!(!(p.t.q.valid))),p.without.v),(_,_,(!(!(p.t.q.valid))),.b (p.without.eq (aj.bare p.kind)))] [(15,.b ((!(p.t.q.valid))||(!(p.without.eq (aj.bare p.kind)))))] ⟨λu hC g=>JX p.t.v p.t.q K _ ((aT.toQ h.2.2.2.2.2.2.2.2.2 hf).fB (Ã S.E hC)) hK1 Z,λu hC g=>UG (h.below (Ã S.E hC)),λu hC g=>wY (p:=p.without) (q:=aj.bare p.kind) (K:=K) ((aj.XV h).below (Ã S.E hC)) (aj.jr h.1 _) (aj.UF p K) (aT.gQ K) hK1 hK,G⟩ λu E7 S=>È S ((!(p.t.q.valid))||(!(p.without.eq (aj.bare p.kind)))) (λhc8 S=>?_) (λhc8 S=>?_)
 .refine Æ S (.z) (λS=>?_);exact⟨aC (by unfold aj.valid; rw[hc8]; rfl),S.E⟩
 refine Å S 4 [] [.M 0 0] λS=>È S ((p.kind)==1) (λhc13 S=>?_) (λhc13 S=>?_)
 .refine Å S 3 [] [.M 0 16] λS=>Þ S (AB p.t.v aT.none.v p.t.q aT.none.q K _ ((aT.toQ h.2.2.2.2.2.2.2.2.2 hf).fB S.E) ((aT.toQ (aT.fQ _) (aT.gQ K)).fB (ù _ _)) hK1 hK) λu KA S=>Æ S (.b (p.t.q.eq aT.none.q)) (λS=>?_);exact⟨aC (by unfold aj.valid; rw[hc8,hc13]; rfl),S.E⟩
 refine È S ((p.kind)==2) (λhc17 S=>?_) (λhc17 S=>?_)
 .refine Å S 2 [] [.M 0 5] λS=>Þ S (lV (p.p0.x) (p.p0.y) _) λu KN S=>ě S 12 [.M 0 7,.M 0 0] [(_,_,(!(!(jP.valid ⟨p.p0.x,p.p0.y⟩))),.b (jP.valid ⟨p.p1.x,p.p1.y⟩)),(_,_,(!((!(jP.valid ⟨p.p0.x,p.p0.y⟩))||(!(jP.valid ⟨p.p1.x,p.p1.y⟩)))),.b (dR p.stops&&fZ p.spread))] [(40,.b (((!(jP.valid ⟨p.p0.x,p.p0.y⟩))||(!(jP.valid ⟨p.p1.x,p.p1.y⟩)))||(!(dR p.stops&&fZ p.spread))))] ⟨λu hC g=>lV (p.p1.x) (p.p1.y) _,λu hC g=>yu (h.below (Ã S.E hC)),G⟩ λu DK S=>È S (((!(jP.valid ⟨p.p0.x,p.p0.y⟩))||(!(jP.valid ⟨p.p1.x,p.p1.y⟩)))||(!(dR p.stops&&fZ p.spread))) (λhc21 S=>?_) (λhc21 S=>?_)
  .refine Æ S (.z) (λS=>?_);exact⟨aC (by unfold aj.valid; rw[hc8,hc13,hc17,hc21]; rfl),S.E⟩
  refine Å S 2 [] [.M 0 16] λS=>zq S (Zz p.t.v p.t.q K _ ((aT.toQ h.2.2.2.2.2.2.2.2.2 hf).fB S.E) hK1 hK) λx u hd EK S=>Þ S (mG _ _ p.t.q.wE q0 (K+K+(K+K)+1) 1 _ (au.toQ hd (yJ _) (yK hK1 (K03 ((aT.toQ h.2.2.2.2.2.2.2.2.2 hf).fB (ù _ _)) hK1))) (vM _) Z Z Z Z) λu FD S=>Æ S (.b (((jH p.t.q.wE q0)) != 0)) (λS=>?_);exact⟨aC (by unfold aj.valid; rw[hc8,hc13,hc17,hc21]; rfl),S.E⟩
 refine È S ((p.kind)==3) (λhc27 S=>?_) (λhc27 S=>?_)
 .refine Å S 2 [] [.M 0 5] λS=>Þ S (lV (p.p0.x) (p.p0.y) _) λu BF S=>ě S 16 [.M 0 9,.M 0 9,.M 0 0] [(_,_,(!(((!(jP.valid ⟨p.p0.x,p.p0.y⟩))||(decide (p.bG<1)))||(decide (1048576<p.bG)))),.b (dR p.stops&&fZ p.spread))] [(61,.b ((((!(jP.valid ⟨p.p0.x,p.p0.y⟩))||(decide (p.bG<1)))||(decide (1048576<p.bG)))||(!(dR p.stops&&fZ p.spread))))] ⟨λu hC g=>yu (h.below (Ã S.E hC)),G⟩ λu E30 S=>È S ((((!(jP.valid ⟨p.p0.x,p.p0.y⟩))||(decide (p.bG<1)))||(decide (1048576<p.bG)))||(!(dR p.stops&&fZ p.spread))) (λhc31 S=>?_) (λhc31 S=>?_)
  .refine Æ S (.z) (λS=>?_);exact⟨aC (by unfold aj.valid; rw[hc8,hc13,hc17,hc27,hc31]; rfl),S.E⟩
  refine Å S 2 [] [.M 0 16] λS=>zq S (Zz p.t.v p.t.q K _ ((aT.toQ h.2.2.2.2.2.2.2.2.2 hf).fB S.E) hK1 hK) λx u hd Yw S=>Þ S (mG _ _ p.t.q.wE q0 (K+K+(K+K)+1) 1 _ (au.toQ hd (yJ _) (yK hK1 (K03 ((aT.toQ h.2.2.2.2.2.2.2.2.2 hf).fB (ù _ _)) hK1))) (vM _) Z Z Z Z) λu Qo S=>Æ S (.b (((jH p.t.q.wE q0)) != 0)) (λS=>?_);exact⟨aC (by unfold aj.valid; rw[hc8,hc13,hc17,hc27,hc31]; rfl),S.E⟩
 refine È S ((p.kind)==4) (λqV S=>?_) (λqV S=>?_)
 .refine Å S 2 [] [.M 0 12] λS=>Þ S (DC (m:=p.img) (h.2.2.2.2.2.2.2.1.below S.E)) λu U1 S=>ě S 22 [.M 0 11,.M 0 11,.M 0 15,.M 0 15] [(_,_,((!(!(p.img.valid)))&&((p.spread) != 0)),.b (fZ p.spread))] [(88,.b (((!(p.img.valid))||(((p.spread) != 0)&&(!(fZ p.spread))))||(((p.dw) != 1)&&((p.dw) != 2))))] ⟨λu hC g=>Đ (JW p.spread _),G⟩ λu Ż S=>È S (((!(p.img.valid))||(((p.spread) != 0)&&(!(fZ p.spread))))||(((p.dw) != 1)&&((p.dw) != 2))) (λKE S=>?_) (λKE S=>?_)
  .refine Æ S (.z) (λS=>?_);exact⟨aC (by unfold aj.valid; rw[hc8,hc13,hc17,hc27,qV,KE]; rfl),S.E⟩
  refine Å S 2 [] [.M 0 16] λS=>zq S (Zz p.t.v p.t.q K _ ((aT.toQ h.2.2.2.2.2.2.2.2.2 hf).fB S.E) hK1 hK) λx u hd Ũ S=>Þ S (mG _ _ p.t.q.wE q0 (K+K+(K+K)+1) 1 _ (au.toQ hd (yJ _) (yK hK1 (K03 ((aT.toQ h.2.2.2.2.2.2.2.2.2 hf).fB (ù _ _)) hK1))) (vM _) Z Z Z Z) λu ϝ S=>Æ S (.b (((jH p.t.q.wE q0)) != 0)) (λS=>?_);exact⟨aC (by unfold aj.valid; rw[hc8,hc13,hc17,hc27,qV,KE]; rfl),S.E⟩
 refine Æ S (.z) (λS=>?_);exact⟨aC (by unfold aj.valid; rw[hc8,hc13,hc17,hc27,qV]; rfl),S.E⟩
abbrev af6{K:Nat}(h:p.ok w)(hf:p.t.fit K)(hK1:1<=K)(hK:K<=10000) :
  Ä prog 274 #[p.v] w (RF w (.b (!p.valid))):=by
 skip;refine Ë func274 ntmps274 λS=>Í S λu b2 E3 hb4 S=>Å S 2 [] [.M 0 0] λS=>Þ S (JY (h.below S.E) hf hK1 hK) λu E6 S=>Æ S (.b (!p.valid)) (λS=>?_);exact⟨I,S.E⟩
open Go.RowKit Go.Sx
variable{α:Type}{K:Nat}
def pU(K:Nat)(w:Á)(v:À)(l:List aj):Prop:=iQ w v l∧(∀p∈l,p.t.fit K)∧1<=K∧K<=10000
abbrev pU.below{w w':Á}{v:À}{l:List aj}(h:pU K w v l)(hb:Ext w w'):pU K w' v l:=⟨h.1.below hb,h.2⟩
variable{w w0:Á}{o:Oper}{v:À}{l:List aj}{Q:Exit->Act->Á->Prop}{ops:Array Oper}{a:Act}{os os':List Oper}{N t0 t1:Nat}{vs:List eU}
abbrev ZA:∃ie,Tryz.prog.info? 210=some ie∧ie.size=1∧ie.zero=some .nilIface:=by
 have h1:(Tryz.prog.info? 210).map (λi=>(i.size,i.zero))=some (1,some .nilIface):=by kernel_rfl
 cases h:Tryz.prog.info? 210 with
 | none=>rw[h]at h1; cases h1
 | some i=>rw[h]at h1; simp at h1; exact⟨i,I,h1.1,h1.2⟩
abbrev fJ(b:Bool)(n:Int):(dK b n).cells = #[dK b n]:=by unfold dK; split<;>rfl
abbrev Ny{P:Program}{ρ:Operand->À}{w1:Á}{t:TypeId}{n:Nat}{parts:Array (Nat×Operand)}{vs:Array (Nat×À)}{V:À}(hop:o.op = .buildSlice t n parts)(hp:(parts.map λ(i,x)=>(i,ρ x))=vs)(h:(Instr.buildSlice t n vs).run P w = .ok V w1) :
  (execOp ρ o).run P w = .ok (.value V) w1:=by
 unfold execOp;simp only[hop,hp,ķ,h];rfl
abbrev abU(v0 v1 v2 v3 v4 v5:À)(w:Á)(h0:v0.cells = #[v0])(h1:v1.cells = #[v1])(h2:v2.cells = #[v2])(h3:v3.cells = #[v3])(h4:v4.cells = #[v4])(h5:v5.cells = #[v5]) :
  (Instr.buildSlice 292 6 #[(0,v0),(1,v1),(2,v2),(3,v3),(4,v4),(5,v5)]).run prog w = .ok (.s (some ⟨w.heap.size,0,none⟩) 6 6) (w.alloc (.cells #[v0,v1,v2,v3,v4,v5] 210)):=by
 obtain⟨ie,hi,hs,hz⟩:=ZA;refine run_buildSlice w _ 210 6 _ _ ie .nilIface underlying292 hi hz (by rw[hs]; decide) (by rw[hs]; decide) ?_;rw[hs];have ez:((Array.range (6*1)).map (Value.nilIface.cells[· % Value.nilIface.cells.size]!)) = #[.nilIface,.nilIface,.nilIface,.nilIface,.nilIface,.nilIface]:=by kernel_rfl
 rw[ez];simp[Instr.fill,h0,h1,h2,h3,h4,h5]
abbrev UH{l:List (Nat×À)}{bl:List (Nat×List À)}(S:Sx.St w0 a w N l bl vs)(d:Nat)(v0 v1 v2 v3 v4 v5:À){t2 t3 t4 t5:Nat} 
  (hos:os=o::os') (hg:o.guard=none) (hd:o.dst=some d) (hop:o.op = .buildSlice 292 6 #[(0,.tmp t0),(1,.tmp t1),(2,.tmp t2),(3,.tmp t3),(4,.tmp t4),(5,.tmp t5)]) (c0:v0.cells = #[v0]) (c1:v1.cells = #[v1]) (c2:v2.cells = #[v2]) (c3:v3.cells = #[v3]) (c4:v4.cells = #[v4]) (c5:v5.cells = #[v5])
  (next:∀a' w' b,Ext w w'->b=w.heap.size->Sx.St w0 a' w' N ((d,.s (some ⟨b,0,none⟩) 6 6)::l) ((b,[v0,v1,v2,v3,v4,v5])::bl) vs->Ð prog ops Q (os.drop 1) a' w')
  (l0:l.lookup t0=some v0:=by kernel_rfl) (l1:l.lookup t1=some v1:=by kernel_rfl) (l2:l.lookup t2=some v2:=by kernel_rfl) (l3:l.lookup t3=some v3:=by kernel_rfl) (l4:l.lookup t4=some v4:=by kernel_rfl) (l5:l.lookup t5=some v5:=by kernel_rfl) (hdn:uN N (some d)=true:=by rfl):Ð prog ops Q os a w:=
 af7 S d [v0,v1,v2,v3,v4,v5] 210 (λb => .s (some ⟨b,0,none⟩) 6 6) hos hg hd (Ny hop (by simp[S.s.has _ _ l0,S.s.has _ _ l1,S.s.has _ _ l2,S.s.has _ _ l3,S.s.has _ _ l4,S.s.has _ _ l5]) (abU v0 v1 v2 v3 v4 v5 w c0 c1 c2 c3 c4 c5)) next hdn
abbrev abV(v0 v1:À)(w:Á)(h0:v0.cells = #[v0])(h1:v1.cells = #[v1]) :
  (Instr.buildSlice 292 2 #[(0,v0),(1,v1)]).run prog w = .ok (.s (some ⟨w.heap.size,0,none⟩) 2 2) (w.alloc (.cells #[v0,v1] 210)):=by
 obtain⟨ie,hi,hs,hz⟩:=ZA;refine run_buildSlice w _ 210 2 _ _ ie .nilIface underlying292 hi hz (by rw[hs]; decide) (by rw[hs]; decide) ?_;rw[hs];have ez:((Array.range (2*1)).map (Value.nilIface.cells[· % Value.nilIface.cells.size]!)) = #[.nilIface,.nilIface]:=by kernel_rfl
 rw[ez];simp[Instr.fill,h0,h1]
abbrev af8{l:List (Nat×À)}{bl:List (Nat×List À)}(S:Sx.St w0 a w N l bl vs)(d:Nat)(v0 v1:À) 
  (hos:os=o::os') (hg:o.guard=none) (hd:o.dst=some d) (hop:o.op = .buildSlice 292 2 #[(0,.tmp t0),(1,.tmp t1)]) (c0:v0.cells = #[v0]) (c1:v1.cells = #[v1])
  (next:∀a' w' b,Ext w w'->b=w.heap.size->Sx.St w0 a' w' N ((d,.s (some ⟨b,0,none⟩) 2 2)::l) ((b,[v0,v1])::bl) vs->Ð prog ops Q (os.drop 1) a' w')
  (l0:l.lookup t0=some v0:=by kernel_rfl) (l1:l.lookup t1=some v1:=by kernel_rfl) (hdn:uN N (some d)=true:=by rfl):Ð prog ops Q os a w:=
 af7 S d [v0,v1] 210 (λb => .s (some ⟨b,0,none⟩) 2 2) hos hg hd (Ny hop (by simp[S.s.has _ _ l0,S.s.has _ _ l1]) (abV v0 v1 w c0 c1)) next hdn
abbrev JZ(h:pU K w v l) :
  Ä prog 302 #[v,.func (.func 274) #[] #[]] w λe w'=>∃z,e = .R (.i z)∧decide (0<=z) = !(l.all aj.valid)∧Ext w w':=by
 obtain⟨a,cap,rfl⟩:=h.1.1.shape;have hmax:l.length<=9223372036854775807:=h.1.1.len;refine Ë func302 ntmps302 λS=>ĕ S (ι:=Nat) (λp a' w'=>p<=l.length∧((l.take p).all aj.valid=true)∧Sx.St w a' w' 19 [(0,.s a l.length cap),(1,.func (.func 274) #[] #[]),(4,.i 0),(7,.i l.length),(8,.i p)] [] []) (λp=>l.length-p) (0) (λS=>⟨Õ _,I,S.oK⟩) ?_;rintro k ac u ig fC hI;try dsimp only at hI
 obtain⟨hk,hR,S⟩:=hI;refine Ė S λS=>È S (decide ((k:Int)<(l.length:Int))) (λhc6 S=>?_) (λhc6 S=>?_)
 .have qx:k<l.length:=by have:=å hc6; omega
  obtain⟨b10,o11,rfl,x16,wH,FY,Ja⟩:=û h.1.1 (λ_=>I) (k) qx;have S:=S.view0 FY Ja;refine Å S 7 [] [.idx k l.length,.M 0 0] (hk:=⟨qx,G⟩) λS=>Þ S (af6 ((h.1.2 _ (wH▸þ qx)).below S.E) (h.2.1 _ (wH▸þ qx)) h.2.2.1 h.2.2.2) λu BG S=>È S (!x16.valid) (λhc19 S=>?_) (λhc19 S=>?_)
  .refine Æ S (.i k) (λS=>?_);exact⟨_,I,by rw[rP qx (by rw[wH]; simpa using hc19)]; simp,S.E⟩
  refine Å S 2 [] [.re 18 (.i (IntKind.i64.wrap ((k:Int)+1))) (.i (k+1:Nat))] (hk:=⟨ą Z,G⟩) λS=>ė S ig (λS=>?_);exact fC _ _ (k+1) ⟨Z,(jw qx hR (by rw[wH]; simpa using hc19)),S.oK⟩ (by show _-_<_-_; omega)
 refine Æ S (.i (-1)) (λS=>?_);exact⟨_,I,by rw[pK (by have:=ñ hc6; omega) hR]; rfl,S.E⟩
abbrev Lm(h:pU K w v l) :
  Ä prog 273 #[v,.func (.func 274) #[] #[]] w (RF w (.b (!(l.all aj.valid)))):=by
 skip;refine Ë func273 ntmps273 λS=>î S (JZ (h.below S.E)) ?_;rintro e u ⟨z,rfl,hz,E3⟩;refine⟨_,I,E3,λS=>?_⟩;refine Æ S (.b (0<=z)) (λS=>?_);exact⟨aC hz,S.E⟩
abbrev ZB(h:pU K w v l) :
  Ä prog 233 #[v] w (RF w (.b (l.all aj.valid))):=by
 skip;refine Ë func233 ntmps233 λS=>Þ S (Lm (h.below S.E)) λu E3 S=>Æ S (.b (!(!(l.all aj.valid)))) (λS=>?_);exact⟨aC Y,S.E⟩
