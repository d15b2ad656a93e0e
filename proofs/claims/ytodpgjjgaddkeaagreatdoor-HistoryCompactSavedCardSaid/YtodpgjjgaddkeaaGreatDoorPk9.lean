/- slices.Equal of the rows that -/
import Derived.Test.YtodpgjjgaddkeaaGreatDoorPk8
import Derived.Great.BuildSlice
set_option maxRecDepth 100000
set_option maxHeartbeats 9999999
open Go renaming World->VO,Value->aaT,Calls->abB,wpList->aiw
open Go.Proofs.Tryz
set_option linter.unusedVariables false
set_option linter.unusedSimpArgs false
section
namespace Go.Proofs.Vy
open Go.RowKit
variable{α:Type}
variable{l m:List α}{v u:aaT}{k:Nat}
abbrev aJ{a b:Bool}(h:a=b):Ending.returned (.b a) = .R (.b b):=by rw[h]
abbrev nS [DecidableEq α](h:((l.length:Int) != (m.length:Int))=true):false=decide (l=m):=by
 have D:l≠m:=λe=>by subst e; simp at h
 simp[D]
abbrev mF(h:((l.length:Int) != (m.length:Int))=false):l.length=m.length:=by simp at h; omega
abbrev rW [DecidableEq α](hk:l.length<=k)(h:l.length=m.length)(D:l.take k=m.take k):true=decide (l=m):=by
 rw[aDG hk,aDG Z]at D; simp[D]
abbrev rV [DecidableEq α](D:k<l.length)(J:k<m.length)(h:l[k]≠m[k]):false=decide (l=m):=by
 have D:l≠m:=λe=>by subst e; exact h I
 simp[D]
abbrev nT(D:k<l.length)(J:k<m.length)(S:l.take k=m.take k)(h:l[k]=m[k]):l.take (k+1)=m.take (k+1):=by
 rw[aEj D,aEj J,S,h]
abbrev aeT{x y:dM}(h:(!((x.verb==y.verb)&&((x.a.x==y.a.x)&&((x.a.y==y.a.y)&&((x.b.x==y.b.x)&&((x.b.y==y.b.y)&&((x.c.x==y.c.x)&&(x.c.y==y.c.y))))))))=false):x=y:=by
 obtain⟨v,⟨a,b⟩,⟨c,d⟩,⟨e,f⟩⟩:=x;obtain⟨D,⟨J,b'⟩,⟨S,d'⟩,⟨e',f'⟩⟩:=y;simp at h |-; omega
abbrev Jb{a b:UInt8}(h:(a.toNat:Int)=(b.toNat:Int)):a=b:=aFA.1 Z
abbrev XC{x y:bJ}(h:(!(((x.r.toNat:Int)==y.r.toNat)&&(((x.g.toNat:Int)==y.g.toNat)&&(((x.b.toNat:Int)==y.b.toNat)&&((x.a.toNat:Int)==y.a.toNat)))))=false):x=y:=by
 obtain⟨a,b,c,d⟩:=x;obtain⟨D,b',J,S⟩:=y;simp only[aEC,aDt,aDu]at h;rw[Jb h.1,Jb h.2.1,Jb h.2.2.1,Jb h.2.2.2]
abbrev aad{x y:dK}(h:(!((x.o==y.o)&&(((x.c.r.toNat:Int)==y.c.r.toNat)&&(((x.c.g.toNat:Int)==y.c.g.toNat)&&(((x.c.b.toNat:Int)==y.c.b.toNat)&&((x.c.a.toNat:Int)==y.c.a.toNat))))))=false):x=y:=by
 obtain⟨o,c⟩:=x;obtain⟨J,D⟩:=y;simp only[aEC,aDt,aDu]at h;have:c=D:=XC (by simp only[aEC,aDt,aDu]; exact h.2);rw[h.1,this]
abbrev aeZ{x y:Int}(h:(x != y)=false):x=y:=by simpa using h
abbrev abL{w:VO}{l m:List dM}(h:aI 7 dM.cells w v l)(h':aI 7 dM.cells w u m) :
  abB prog 182 #[v,u] w (VH w (.b (l=m))):=by
 obtain⟨a,cap,rfl⟩:=h.shape;obtain⟨d,cap',rfl⟩:=h'.shape;have D:l.length<=9223372036854775807:=h.len;refine aCG func182 ntmps182 λS=>aCD S (((l.length:Int)) != (m.length:Int)) (λab S=>?_) (λab S=>?_)
 .refine aCB S (.z) (λS=>?_);exact⟨aJ (nS ab),S.E⟩
 refine aCZ S (ι:=Nat) (λp D w'=>p<=l.length∧(l.take p=m.take p)∧Sx.St w D w' 26 [(0,.s a l.length cap),(1,.s d m.length cap'),(4,.z),(12,.i l.length),(13,.i p)] [] []) (λp=>l.length-p) (0) (λS=>⟨aDl _,I,S.qc⟩) ?_;rintro k J u gJ dW D;try dsimp only at D
 obtain⟨hk,hR,S⟩:=D;refine aC0 S λS=>aCD S (decide ((k:Int)<(l.length:Int))) (λfK S=>?_) (λfK S=>?_)
 .have wB:k<l.length:=by have:=aDw fK; omega
  obtain⟨J,af,rfl,D,Ld,VF,Ri⟩:=aDN h (λ_=>I) (k) wB;have S:=S.view0 VF Ri;have wC:k<m.length:=by have:=mF ab; have:=aDw fK; omega
  obtain⟨ag,ah,rfl,J,ae,VI,Zy⟩:=aDN h' (λ_=>I) (k) wC;have S:=S.view0 VI Zy;refine aCV S 9 [.idx k l.length,.M 1 0,.idx k m.length,.M 0 0,.cmp .neq 163 (.tmp 19) (.tmp 23) (.agg #[.i D.verb,.i D.a.x,.i D.a.y,.i D.b.x,.i D.b.y,.i D.c.x,.i D.c.y]) (.agg #[.i J.verb,.i J.a.x,.i J.a.y,.i J.b.x,.i J.b.y,.i J.c.x,.i J.c.y]) (.b (!((D.verb==J.verb)&&((D.a.x==J.a.x)&&((D.a.y==J.a.y)&&((D.b.x==J.b.x)&&((D.b.y==J.b.y)&&((D.c.x==J.c.x)&&(D.c.y==J.c.y)))))))))] [] [(24,.b (!((D.verb==J.verb)&&((D.a.x==J.a.x)&&((D.a.y==J.a.y)&&((D.b.x==J.b.x)&&((D.b.y==J.b.y)&&((D.c.x==J.c.x)&&(D.c.y==J.c.y)))))))))] trivial (hk:=⟨wB,wC,aEg (λ_=>akD ..) X,G⟩) λu xw S=>aCD S (!((D.verb==J.verb)&&((D.a.x==J.a.x)&&((D.a.y==J.a.y)&&((D.b.x==J.b.x)&&((D.b.y==J.b.y)&&((D.c.x==J.c.x)&&(D.c.y==J.c.y)))))))) (λaa S=>?_) (λaa S=>?_)
  .refine aCB S (.z) (λS=>?_);exact⟨aJ (rV wB wC (λe=>by have D:=aa; rw[Ld,ae]at e; subst e; simp at D)),S.E⟩
  refine adr S 2 [] [.re 25 (.i (IntKind.i64.wrap ((k:Int)+1))) (.i (k+1:Nat))] (hk:=⟨aCS Z,G⟩) λS=>aCY S gJ (λS=>?_);exact dW _ _ (k+1) ⟨Z,(nT wB wC hR (by rw[Ld,ae]; exact aeT aa)),S.qc⟩ (by show _-_<_-_; omega)
 refine aCB S (.b true) (λS=>?_);exact⟨aJ (rW (by have:=aDA fK; omega) (mF ab) hR),S.E⟩
abbrev Zz{w:VO}{l m:List dK}(h:aI 5 dK.cells w v l)(h':aI 5 dK.cells w u m) :
  abB prog 183 #[v,u] w (VH w (.b (l=m))):=by
 obtain⟨a,cap,rfl⟩:=h.shape;obtain⟨d,cap',rfl⟩:=h'.shape;have D:l.length<=9223372036854775807:=h.len;refine aCG func183 ntmps183 λS=>aCD S (((l.length:Int)) != (m.length:Int)) (λab S=>?_) (λab S=>?_)
 .refine aCB S (.z) (λS=>?_);exact⟨aJ (nS ab),S.E⟩
 refine aCZ S (ι:=Nat) (λp D w'=>p<=l.length∧(l.take p=m.take p)∧Sx.St w D w' 26 [(0,.s a l.length cap),(1,.s d m.length cap'),(4,.z),(12,.i l.length),(13,.i p)] [] []) (λp=>l.length-p) (0) (λS=>⟨aDl _,I,S.qc⟩) ?_;rintro k J u gJ dW D;try dsimp only at D
 obtain⟨hk,hR,S⟩:=D;refine aC0 S λS=>aCD S (decide ((k:Int)<(l.length:Int))) (λfK S=>?_) (λfK S=>?_)
 .have wB:k<l.length:=by have:=aDw fK; omega
  obtain⟨J,af,rfl,D,Ld,VF,Ri⟩:=aDN h (λ_=>I) (k) wB;have S:=S.view0 VF Ri;have wC:k<m.length:=by have:=mF ab; have:=aDw fK; omega
  obtain⟨ag,ah,rfl,J,ae,VI,Zy⟩:=aDN h' (λ_=>I) (k) wC;have S:=S.view0 VI Zy;refine aCV S 9 [.idx k l.length,.M 1 0,.idx k m.length,.M 0 0,.cmp .neq 202 (.tmp 19) (.tmp 23) (.agg #[.i D.o,.u (D.c.r.toNat:Int),.u (D.c.g.toNat:Int),.u (D.c.b.toNat:Int),.u (D.c.a.toNat:Int)]) (.agg #[.i J.o,.u (J.c.r.toNat:Int),.u (J.c.g.toNat:Int),.u (J.c.b.toNat:Int),.u (J.c.a.toNat:Int)]) (.b (!((D.o==J.o)&&(((D.c.r.toNat:Int)==(J.c.r.toNat:Int))&&(((D.c.g.toNat:Int)==(J.c.g.toNat:Int))&&(((D.c.b.toNat:Int)==(J.c.b.toNat:Int))&&((D.c.a.toNat:Int)==(J.c.a.toNat:Int))))))))] [] [(24,.b (!((D.o==J.o)&&(((D.c.r.toNat:Int)==(J.c.r.toNat:Int))&&(((D.c.g.toNat:Int)==(J.c.g.toNat:Int))&&(((D.c.b.toNat:Int)==(J.c.b.toNat:Int))&&((D.c.a.toNat:Int)==(J.c.a.toNat:Int))))))))] trivial (hk:=⟨wB,wC,aEg (λ_=>aeU ..) X,G⟩) λu xw S=>aCD S (!((D.o==J.o)&&(((D.c.r.toNat:Int)==(J.c.r.toNat:Int))&&(((D.c.g.toNat:Int)==(J.c.g.toNat:Int))&&(((D.c.b.toNat:Int)==(J.c.b.toNat:Int))&&((D.c.a.toNat:Int)==(J.c.a.toNat:Int))))))) (λaa S=>?_) (λaa S=>?_)
  .refine aCB S (.z) (λS=>?_);exact⟨aJ (rV wB wC (λe=>by have D:=aa; rw[Ld,ae]at e; subst e; simp at D)),S.E⟩
  refine adr S 2 [] [.re 25 (.i (IntKind.i64.wrap ((k:Int)+1))) (.i (k+1:Nat))] (hk:=⟨aCS Z,G⟩) λS=>aCY S gJ (λS=>?_);exact dW _ _ (k+1) ⟨Z,(nT wB wC hR (by rw[Ld,ae]; exact aad aa)),S.qc⟩ (by show _-_<_-_; omega)
 refine aCB S (.b true) (λS=>?_);exact⟨aJ (rW (by have:=aDA fK; omega) (mF ab) hR),S.E⟩
abbrev adF{w:VO}{l m:List bJ}(h:aI 4 bJ.cells w v l)(h':aI 4 bJ.cells w u m) :
  abB prog 185 #[v,u] w (VH w (.b (l=m))):=by
 obtain⟨a,cap,rfl⟩:=h.shape;obtain⟨d,cap',rfl⟩:=h'.shape;have D:l.length<=9223372036854775807:=h.len;refine aCG func185 ntmps185 λS=>aCD S (((l.length:Int)) != (m.length:Int)) (λab S=>?_) (λab S=>?_)
 .refine aCB S (.z) (λS=>?_);exact⟨aJ (nS ab),S.E⟩
 refine aCZ S (ι:=Nat) (λp D w'=>p<=l.length∧(l.take p=m.take p)∧Sx.St w D w' 26 [(0,.s a l.length cap),(1,.s d m.length cap'),(4,.z),(12,.i l.length),(13,.i p)] [] []) (λp=>l.length-p) (0) (λS=>⟨aDl _,I,S.qc⟩) ?_;rintro k J u gJ dW D;try dsimp only at D
 obtain⟨hk,hR,S⟩:=D;refine aC0 S λS=>aCD S (decide ((k:Int)<(l.length:Int))) (λfK S=>?_) (λfK S=>?_)
 .have wB:k<l.length:=by have:=aDw fK; omega
  obtain⟨J,af,rfl,D,Ld,VF,Ri⟩:=aDN h (λ_=>I) (k) wB;have S:=S.view0 VF Ri;have wC:k<m.length:=by have:=mF ab; have:=aDw fK; omega
  obtain⟨ag,ah,rfl,J,ae,VI,Zy⟩:=aDN h' (λ_=>I) (k) wC;have S:=S.view0 VI Zy;refine aCV S 9 [.idx k l.length,.M 1 0,.idx k m.length,.M 0 0,.cmp .neq 178 (.tmp 19) (.tmp 23) (.agg #[.u (D.r.toNat:Int),.u (D.g.toNat:Int),.u (D.b.toNat:Int),.u (D.a.toNat:Int)]) (.agg #[.u (J.r.toNat:Int),.u (J.g.toNat:Int),.u (J.b.toNat:Int),.u (J.a.toNat:Int)]) (.b (!(((D.r.toNat:Int)==(J.r.toNat:Int))&&(((D.g.toNat:Int)==(J.g.toNat:Int))&&(((D.b.toNat:Int)==(J.b.toNat:Int))&&((D.a.toNat:Int)==(J.a.toNat:Int)))))))] [] [(24,.b (!(((D.r.toNat:Int)==(J.r.toNat:Int))&&(((D.g.toNat:Int)==(J.g.toNat:Int))&&(((D.b.toNat:Int)==(J.b.toNat:Int))&&((D.a.toNat:Int)==(J.a.toNat:Int)))))))] trivial (hk:=⟨wB,wC,aEg (λ_=>akE ..) X,G⟩) λu xw S=>aCD S (!(((D.r.toNat:Int)==(J.r.toNat:Int))&&(((D.g.toNat:Int)==(J.g.toNat:Int))&&(((D.b.toNat:Int)==(J.b.toNat:Int))&&((D.a.toNat:Int)==(J.a.toNat:Int)))))) (λaa S=>?_) (λaa S=>?_)
  .refine aCB S (.z) (λS=>?_);exact⟨aJ (rV wB wC (λe=>by have D:=aa; rw[Ld,ae]at e; subst e; simp at D)),S.E⟩
  refine adr S 2 [] [.re 25 (.i (IntKind.i64.wrap ((k:Int)+1))) (.i (k+1:Nat))] (hk:=⟨aCS Z,G⟩) λS=>aCY S gJ (λS=>?_);exact dW _ _ (k+1) ⟨Z,(nT wB wC hR (by rw[Ld,ae]; exact XC aa)),S.qc⟩ (by show _-_<_-_; omega)
 refine aCB S (.b true) (λS=>?_);exact⟨aJ (rW (by have:=aDA fK; omega) (mF ab) hR),S.E⟩
abbrev adG{w:VO}{l m:List Int}(h:aI 1 (λx=>[AU x]) w v l)(h':aI 1 (λx=>[AU x]) w u m) :
  abB prog 184 #[v,u] w (VH w (.b (l=m))):=by
 obtain⟨a,cap,rfl⟩:=h.shape;obtain⟨d,cap',rfl⟩:=h'.shape;have D:l.length<=9223372036854775807:=h.len;refine aCG func184 ntmps184 λS=>aCD S (((l.length:Int)) != (m.length:Int)) (λJ S=>?_) (λJ S=>?_)
 .refine aCB S (.z) (λS=>?_);exact⟨aJ (nS J),S.E⟩
 refine aCZ S (ι:=Nat) (λp D w'=>p<=l.length∧(l.take p=m.take p)∧Sx.St w D w' 26 [(0,.s a l.length cap),(1,.s d m.length cap'),(4,.z),(12,.i l.length),(13,.i p)] [] []) (λp=>l.length-p) (0) (λS=>⟨aDl _,I,S.qc⟩) ?_;rintro k ac u gJ dW D;try dsimp only at D
 obtain⟨hk,hR,S⟩:=D;refine aC0 S λS=>aCD S (decide ((k:Int)<(l.length:Int))) (λfK S=>?_) (λfK S=>?_)
 .have wB:k<l.length:=by have:=aDw fK; omega
  obtain⟨D,af,rfl,ab,Ld,VF,Ri⟩:=aDN h (λ_=>I) (k) wB;have S:=S.view0 VF Ri;have wC:k<m.length:=by have:=mF J; have:=aDw fK; omega
  obtain⟨D,ag,rfl,ae,aa,VI,Zy⟩:=aDN h' (λ_=>I) (k) wC;have S:=S.view0 VI Zy;refine aCV S 9 [.idx k l.length,.M 1 0,.idx k m.length,.M 0 0] [] [(24,.b ((ab) != ae))] trivial (hk:=⟨wB,wC,G⟩) λu D S=>aCD S ((ab) != ae) (λD S=>?_) (λD S=>?_)
  .refine aCB S (.z) (λS=>?_);exact⟨aJ (rV wB wC (λe=>by have hq:=D; rw[Ld,aa]at e; subst e; simp at hq)),S.E⟩
  refine adr S 2 [] [.re 25 (.i (IntKind.i64.wrap ((k:Int)+1))) (.i (k+1:Nat))] (hk:=⟨aCS Z,G⟩) λS=>aCY S gJ (λS=>?_);exact dW _ _ (k+1) ⟨Z,(nT wB wC hR (by rw[Ld,aa]; exact aeZ D)),S.qc⟩ (by show _-_<_-_; omega)
 refine aCB S (.b true) (λS=>?_);exact⟨aJ (rW (by have:=aDA fK; omega) (mF J) hR),S.E⟩
open Go.RowKit
variable{α:Type}
variable{k b:Nat}{m:dI}{l:List dK}{p:α->Bool}{last:Int}{v:aaT}
abbrev adH(p:bJ):(((min (p.r.toNat:Int) (p.a.toNat:Int))==(p.r.toNat:Int))&&(((min (p.g.toNat:Int) (p.a.toNat:Int))==(p.g.toNat:Int))&&(((min (p.b.toNat:Int) (p.a.toNat:Int))==(p.b.toNat:Int))&&((min (p.a.toNat:Int) (p.a.toNat:Int))==(p.a.toNat:Int)))))=p.valid:=by
 have h:∀x y:UInt8,((min (x.toNat:Int) (y.toNat:Int))==(x.toNat:Int))=decide (x<=y):=by
  intro x y; rw[aEI]; simp only[aDu,aDv,UInt8.le_iff_toNat_le]; omega
 rw[h,h,h,h]; unfold bJ.valid; simp
abbrev yC{l:List α}(hk:l.length<=k)(h:(l.take k).all p=true):l.all p=true:=by rwa [aDG hk]at h
abbrev zo{l:List α}(hk:k<l.length)(h:p l[k]=false):l.all p=false:=by
 rw[List.all_eq_false]; exact⟨l[k],aDI hk,by simp[h]⟩
abbrev mV{l:List α}(hk:k<l.length)(D:(l.take k).all p=true)(h:p l[k]=true):(l.take (k+1)).all p=true:=by
 rw[aEj hk,List.all_append,D]; simp[h]
abbrev adI{a b:Int}(D:side a=true)(J:side b=true):IntKind.i64.wrap (a*b)=a*b:=by
 simp only[side,aDt,aDv]at D J;have S:a*b<=4096*4096:=Int.le_trans (Int.mul_le_mul_of_nonneg_right D.2 Z) (Int.mul_le_mul_of_nonneg_left J.2 Z);have D:0<=a*b:=Int.mul_nonneg Z Z;rw[aE9]; omega
abbrev V9:((((!(side m.w))||(!(side m.h)))||(decide (65536<IntKind.i64.wrap (m.w*m.h))))||((m.l.length:Int) != IntKind.i64.wrap (m.w*m.h)))=((((!(side m.w))||(!(side m.h)))||(decide (65536<(m.w*m.h))))||((m.l.length:Int) != (m.w*m.h))):=by
 cases ha:side m.w<;>cases hb:side m.h<;>simp only[Bool.not_false,Bool.not_true,Bool.true_or,Bool.false_or,Bool.or_true];rw[adI ha hb]
abbrev aoX(h:((((!(side m.w))||(!(side m.h)))||(decide (65536<(m.w*m.h))))||((m.l.length:Int) != (m.w*m.h)))=true):false=m.valid:=by
 unfold dI.valid dI.size;revert h;cases side m.w<;>cases side m.h<;>simp;intro h D J; omega
abbrev akj(h:((((!(side m.w))||(!(side m.h)))||(decide (65536<(m.w*m.h))))||((m.l.length:Int) != (m.w*m.h)))=false):(!(!(m.l.all bJ.valid)))=m.valid:=by
 unfold dI.valid dI.size;revert h;cases side m.w<;>cases side m.h<;>simp;intro h D; rw[D]; simp[h]
abbrev aoY{n:dI}:((m.w==n.w)&&(m.h==n.h)&&decide (m.l=n.l))=m.eq n:=by
 unfold dI.eq;rw[Bool.and_assoc];by_cases h:m.l=n.l<;>simp[h]
abbrev adJ(h:((decide ((l.length:Int)<1))||(decide (16<(l.length:Int))))=true):false=iL l:=by
 unfold iL;simp only[aEV,aDv]at h;rcases h with h | h
 .rw[aER Z]; rfl
 rw[aER (p:=l.length<=16) Z]; simp
abbrev Wh(h:((decide ((l.length:Int)<1))||(decide (16<(l.length:Int))))=false):iL l=iJ 0 l:=by
 unfold iL;simp only[aDX,aDQ]at h;rw[aEy (p:=1<=l.length) Z,aEy (p:=l.length<=16) Z]; rfl
abbrev adK(h:((decide ((l.length:Int)<1))||(decide (16<(l.length:Int))))=false)(hk:l.length<=k)(D:iJ 0 l=iJ last (l.drop k)):true=iL l:=by
 rw[Wh h,D,aEB hk]; rfl
abbrev adL(h:((decide ((l.length:Int)<1))||(decide (16<(l.length:Int))))=false)(hk:k<l.length)(J:iJ 0 l=iJ last (l.drop k))(D:((decide (l[k].o<last))||(decide (65536<l[k].o)))=true):false=iL l:=by
 rw[Wh h,J,aEu hk,iJ];simp only[aEV,aDv]at D;rcases D with D | D
 .rw[aER Z]; rfl
 rw[aER (p:=l[k].o<=65536) Z]; simp
abbrev ZA(hk:k<l.length)(D:iJ 0 l=iJ last (l.drop k))(J:((decide (l[k].o<last))||(decide (65536<l[k].o)))=false):iJ 0 l=iJ l[k].o (l.drop (k+1)):=by
 rw[D,aEu hk,iJ];simp only[aDX,aDQ]at J;rw[aEy (p:=last<=l[k].o) Z,aEy (p:=l[k].o<=65536) Z]; rfl
abbrev wE{w:VO}(p:bJ)(x:Int)(D:Bx w b #[.u (p.r.toNat:Int),.u (p.g.toNat:Int),.u (p.b.toNat:Int),.u (p.a.toNat:Int)]) :
  abB prog 307 #[.u x,.q b 0] w λe w'=>e = .R (.u (min x (p.a.toNat:Int)))∧w=w':=by
 skip;refine aCG func307 ntmps307 (λS=>?_);have S:=S.view0 D.1 (D.range 0 4 I);refine adr S 6 [] [.M 0 3,.re 7 (.u (if (p.a.toNat:Int)<x then (p.a.toNat:Int)else x)) (.u (min x (p.a.toNat:Int)))] (hk:=⟨Sx.aoZ,G⟩) λS=>aCB S (.u (min x (p.a.toNat:Int))) (λS=>?_);exact⟨I,I⟩
abbrev ahL{w:VO}(p:bJ)(J:Bx w b #[.u (p.r.toNat:Int),.u (p.g.toNat:Int),.u (p.b.toNat:Int),.u (p.a.toNat:Int)]) :
  abB prog 306 #[.agg #[.u (p.r.toNat:Int),.u (p.g.toNat:Int),.u (p.b.toNat:Int),.u (p.a.toNat:Int)],.func (.func 307) #[] #[.q b 0]] w (VH w (.agg #[.u (min (p.r.toNat:Int) (p.a.toNat:Int)),.u (min (p.g.toNat:Int) (p.a.toNat:Int)),.u (min (p.b.toNat:Int) (p.a.toNat:Int)),.u (min (p.a.toNat:Int) (p.a.toNat:Int))])):=by
 skip;refine aCG func306 ntmps306 (λS=>?_);have S:=S.view0 J.1 (J.range 0 4 I);refine aCF S λu b2 E3 D S=>aCF S λu b5 E6 D S=>aCV S 17 [.M 1 0,.M 1 1,.M 1 2,.M 1 3] [(_,_,true,.u (min (p.r.toNat:Int) (p.a.toNat:Int))),(_,_,true,.u (min (p.g.toNat:Int) (p.a.toNat:Int))),(_,_,true,.u (min (p.b.toNat:Int) (p.a.toNat:Int))),(_,_,true,.u (min (p.a.toNat:Int) (p.a.toNat:Int)))] [(21,.agg #[.u (min (p.r.toNat:Int) (p.a.toNat:Int)),.u (min (p.g.toNat:Int) (p.a.toNat:Int)),.u (min (p.b.toNat:Int) (p.a.toNat:Int)),.u (min (p.a.toNat:Int) (p.a.toNat:Int))])] ⟨λu D g=>aC3 (wE p (p.r.toNat:Int) (J.ext (K00 S.E D))),λu D g=>aC3 (wE p (p.g.toNat:Int) (J.ext (K00 S.E D))),λu D g=>aC3 (wE p (p.b.toNat:Int) (J.ext (K00 S.E D))),λu D g=>aC3 (wE p (p.a.toNat:Int) (J.ext (K00 S.E D))),G⟩ λu E9 S=>aCH S 0 I λu D S=>aCU S 0 I (v := .agg #[.u (min (p.r.toNat:Int) (p.a.toNat:Int)),.u (min (p.g.toNat:Int) (p.a.toNat:Int)),.u (min (p.b.toNat:Int) (p.a.toNat:Int)),.u (min (p.a.toNat:Int) (p.a.toNat:Int))]) (λS=>?_);exact⟨I,S.E⟩
abbrev ZB(p:bJ)(w:VO) :
  abB prog 277 #[.agg #[.u (p.r.toNat:Int),.u (p.g.toNat:Int),.u (p.b.toNat:Int),.u (p.a.toNat:Int)]] w (VH w (.agg #[.u (min (p.r.toNat:Int) (p.a.toNat:Int)),.u (min (p.g.toNat:Int) (p.a.toNat:Int)),.u (min (p.b.toNat:Int) (p.a.toNat:Int)),.u (min (p.a.toNat:Int) (p.a.toNat:Int))])):=by
 skip;refine aCG func277 ntmps277 λS=>aCF S λu b2 J D S=>aCF S λu b5 J D S=>adr S 2 [] [.M 1 0] λS=>aCQ S (ahL p (S.kD 1)) λu D S=>aCH S 0 I λu D S=>aCU S 0 I (v := .agg #[.u (min (p.r.toNat:Int) (p.a.toNat:Int)),.u (min (p.g.toNat:Int) (p.a.toNat:Int)),.u (min (p.b.toNat:Int) (p.a.toNat:Int)),.u (min (p.a.toNat:Int) (p.a.toNat:Int))]) (λS=>?_);exact⟨I,S.E⟩
abbrev RP(p:bJ)(w:VO) :
  abB prog 237 #[.agg #[.u (p.r.toNat:Int),.u (p.g.toNat:Int),.u (p.b.toNat:Int),.u (p.a.toNat:Int)]] w (VH w (.b p.valid)):=by
 skip;refine aCG func237 ntmps237 λS=>aCF S λu b2 J D S=>aCV S 4 [.M 0 0,.M 0 0,.cmp .eql 178 (.tmp 4) (.tmp 5) (.agg #[.u (min (p.r.toNat:Int) (p.a.toNat:Int)),.u (min (p.g.toNat:Int) (p.a.toNat:Int)),.u (min (p.b.toNat:Int) (p.a.toNat:Int)),.u (min (p.a.toNat:Int) (p.a.toNat:Int))]) (.agg #[.u (p.r.toNat:Int),.u (p.g.toNat:Int),.u (p.b.toNat:Int),.u (p.a.toNat:Int)]) (.b (((min (p.r.toNat:Int) (p.a.toNat:Int))==(p.r.toNat:Int))&&(((min (p.g.toNat:Int) (p.a.toNat:Int))==(p.g.toNat:Int))&&(((min (p.b.toNat:Int) (p.a.toNat:Int))==(p.b.toNat:Int))&&((min (p.a.toNat:Int) (p.a.toNat:Int))==(p.a.toNat:Int))))))] [(_,_,true,.agg #[.u (min (p.r.toNat:Int) (p.a.toNat:Int)),.u (min (p.g.toNat:Int) (p.a.toNat:Int)),.u (min (p.b.toNat:Int) (p.a.toNat:Int)),.u (min (p.a.toNat:Int) (p.a.toNat:Int))])] [(6,.b (((min (p.r.toNat:Int) (p.a.toNat:Int))==(p.r.toNat:Int))&&(((min (p.g.toNat:Int) (p.a.toNat:Int))==(p.g.toNat:Int))&&(((min (p.b.toNat:Int) (p.a.toNat:Int))==(p.b.toNat:Int))&&((min (p.a.toNat:Int) (p.a.toNat:Int))==(p.a.toNat:Int))))))] ⟨λu D g=>ZB p _,G⟩ (hk:=⟨aEg (λ_=>akM ..) X,G⟩) λu D S=>aCB S (.b (((min (p.r.toNat:Int) (p.a.toNat:Int))==(p.r.toNat:Int))&&(((min (p.g.toNat:Int) (p.a.toNat:Int))==(p.g.toNat:Int))&&(((min (p.b.toNat:Int) (p.a.toNat:Int))==(p.b.toNat:Int))&&((min (p.a.toNat:Int) (p.a.toNat:Int))==(p.a.toNat:Int)))))) (λS=>?_);exact⟨aJ (adH p),S.E⟩
abbrev ZC(p:bJ)(w:VO) :
  abB prog 236 #[.agg #[.u (p.r.toNat:Int),.u (p.g.toNat:Int),.u (p.b.toNat:Int),.u (p.a.toNat:Int)]] w (VH w (.b (!p.valid))):=by
 skip;refine aCG func236 ntmps236 λS=>aCF S λu b2 J D S=>adr S 2 [] [.M 0 0] λS=>aCQ S (RP p _) λu D S=>aCB S (.b (!p.valid)) (λS=>?_);exact⟨I,S.E⟩
abbrev RQ{w:VO}{l:List bJ}(h:aI 4 bJ.cells w v l) :
  abB prog 276 #[v,.func (.func 236) #[] #[]] w λe w'=>∃z,e = .R (.i z)∧decide (0<=z) = !(l.all bJ.valid)∧Ext w w':=by
 obtain⟨a,cap,rfl⟩:=h.shape;have D:l.length<=9223372036854775807:=h.len;refine aCG func276 ntmps276 λS=>aCZ S (ι:=Nat) (λp D w'=>p<=l.length∧((l.take p).all bJ.valid=true)∧Sx.St w D w' 19 [(0,.s a l.length cap),(1,.func (.func 236) #[] #[]),(4,.i 0),(7,.i l.length),(8,.i p)] [] []) (λp=>l.length-p) (0) (λS=>⟨aDl _,I,S.qc⟩) ?_;rintro k J u gJ dW D;try dsimp only at D
 obtain⟨hk,hR,S⟩:=D;refine aC0 S λS=>aCD S (decide ((k:Int)<(l.length:Int))) (λJ S=>?_) (λJ S=>?_)
 .have uy:k<l.length:=by have:=aDw J; omega
  obtain⟨b10,D,rfl,aa,BI,wP,QA⟩:=aDN h (λ_=>I) (k) uy;have S:=S.view0 wP QA;refine adr S 7 [] [.idx k l.length,.M 0 0] (hk:=⟨uy,G⟩) λS=>aCQ S (ZC aa _) λu D S=>aCD S (!aa.valid) (λD S=>?_) (λD S=>?_)
  .refine aCB S (.i k) (λS=>?_);exact⟨_,I,by rw[zo uy (by rw[BI]; simpa using D)]; simp,S.E⟩
  refine adr S 2 [] [.re 18 (.i (IntKind.i64.wrap ((k:Int)+1))) (.i (k+1:Nat))] (hk:=⟨aCS Z,G⟩) λS=>aCY S gJ (λS=>?_);exact dW _ _ (k+1) ⟨Z,(mV uy hR (by rw[BI]; simpa using D)),S.qc⟩ (by show _-_<_-_; omega)
 refine aCB S (.i (-1)) (λS=>?_);exact⟨_,I,by rw[yC (by have:=aDA J; omega) hR]; rfl,S.E⟩
abbrev Wi{w:VO}{l:List bJ}(h:aI 4 bJ.cells w v l) :
  abB prog 235 #[v,.func (.func 236) #[] #[]] w (VH w (.b (!(l.all bJ.valid)))):=by
 skip;refine aCG func235 ntmps235 λS=>aCR S (RQ (h.below S.E)) ?_;rintro e u ⟨z,rfl,D,J⟩;refine⟨_,I,J,λS=>?_⟩;refine aCB S (.b (0<=z)) (λS=>?_);exact⟨aJ D,S.E⟩
abbrev Wj(n:Int)(w:VO) :
  abB prog 234 #[.i n] w λe w'=>e = .R (.b (side n))∧w=w':=by
 skip;refine aCG func234 ntmps234 λS=>aCB S (.b ((decide (1<=n))&&(decide (n<=4096)))) (λS=>?_);exact⟨I,I⟩
abbrev CS{w:VO}(h:m.ok w) :
  abB prog 195 #[m.v] w (VH w (.b m.valid)):=by
 obtain⟨a,cap,D⟩:=h.2.2.shape;unfold dI.v;have J:=h.2.2;rw[D];rw[D]at J;refine aCG func195 ntmps195 λS=>aCF S λu b2 E3 D S=>adr S 5 [] [.M 0 0] λS=>Sx.mD S (Wj m.w _) λS=>aC6 S 27 [.M 0 1,.M 0 0,.M 0 1,.M 0 2,.M 0 0,.M 0 1] [(_,_,(!(!(side m.w))),.b (side m.h))] [(34,.b ((((!(side m.w))||(!(side m.h)))||(decide (65536<(IntKind.i64.wrap (m.w*m.h)))))||(((m.l.length:Int)) != (IntKind.i64.wrap (m.w*m.h)))))] ⟨λu D g=>aC3 (Wj m.h _),G⟩ λu D S=>aCD S ((((!(side m.w))||(!(side m.h)))||(decide (65536<(IntKind.i64.wrap (m.w*m.h)))))||(((m.l.length:Int)) != (IntKind.i64.wrap (m.w*m.h)))) (λD S=>?_) (λD S=>?_)
 .refine aCB S (.z) (λS=>?_);exact⟨aJ (aoX (V9▸D)),S.E⟩
 refine adr S 2 [] [.M 0 2] λS=>aCQ S (Wi (J.below S.E)) λu qC S=>aCB S (.b (!(!(m.l.all bJ.valid)))) (λS=>?_);exact⟨aJ (akj (V9▸D)),S.E⟩
abbrev uX{w:VO}{n:dI}(h:m.ok w)(h':n.ok w) :
  abB prog 141 #[m.v,n.v] w (VH w (.b (m.eq n))):=by
 skip;refine aCG func141 ntmps141 λS=>aCF S λu b2 J D S=>aCF S λu b5 J D S=>adr S 1 [] [] λS=>aC6 S 20 [.M 1 0,.M 0 0,.M 1 1,.M 0 1,.M 1 2,.M 0 2] [(_,_,(((m.w)==n.w)&&((m.h)==n.h)),.b (m.l=n.l))] [(4,.b ((((m.w)==n.w)&&((m.h)==n.h))&&(decide (m.l=n.l))))] ⟨λu D g=>adF (h.2.2.below (K00 S.E D)) (h'.2.2.below (K00 S.E D)),G⟩ λu J S=>aCB S (.b ((((m.w)==n.w)&&((m.h)==n.h))&&(decide (m.l=n.l)))) (λS=>?_);exact⟨aJ aoY,S.E⟩
abbrev Nj{w:VO}(h:aI 5 dK.cells w v l) :
  abB prog 331 #[v] w (VH w (.b (iL l))):=by
 obtain⟨a,cap,rfl⟩:=h.shape;have D:l.length<=9223372036854775807:=h.len;refine aCG func331 ntmps331 λS=>aCD S ((decide ((l.length:Int)<1))||(decide (16<(l.length:Int)))) (λJ S=>?_) (λJ S=>?_)
 .refine aCB S (.z) (λS=>?_);exact⟨aJ (adJ J),S.E⟩
 refine aCZ S (ι:=Nat×Int) (λp D w'=>p.1<=l.length∧(iJ 0 l=iJ p.2 (l.drop p.1))∧Sx.St w D w' 32 [(0,.s a l.length cap),(2,.z),(3,.i p.2),(14,.s a l.length cap),(15,.i l.length),(16,.i p.1)] [] []) (λp=>l.length-p.1) (0,0) (λS=>⟨aDl _,I,S.qc⟩) ?_;rintro⟨k,last⟩ ac u gJ dW hI;try dsimp only at hI
 obtain⟨hk,hR,S⟩:=hI;refine aC0 S λS=>aCD S (decide ((k:Int)<(l.length:Int))) (λfJ S=>?_) (λfJ S=>?_)
 .have oM:k<l.length:=by have:=aDw fJ; omega
  obtain⟨D,ab,rfl,aa,vw,xJ,PY⟩:=aDN h (λ_=>I) (k) oM;have S:=S.view0 xJ PY;refine adr S 2 [] [.idx k l.length,.M 0 0] (hk:=⟨oM,G⟩) λS=>aCF S λu D WI Yh S=>aCH S 0 I λu D S=>adr S 9 [] [.M 0 0,.M 0 0] λS=>aCD S ((decide (aa.o<last))||(decide (65536<aa.o))) (λD S=>?_) (λD S=>?_)
  .refine aCB S (.z) (λS=>?_);exact⟨aJ (adL J oM hR (by rw[vw]; exact D)),S.E⟩
  refine adr S 5 [] [.M 0 0,.re 31 (.i (IntKind.i64.wrap ((k:Int)+1))) (.i (k+1:Nat))] (hk:=⟨aCS Z,G⟩) λS=>aCY S gJ (λS=>?_);exact dW _ _ ((k+1),aa.o) ⟨Z,(by rw[<-vw]; exact ZA oM hR (by rw[vw]; exact D)),(S.gB 1).qc⟩ (by show _-_<_-_; omega)
 refine aCB S (.b true) (λS=>?_);exact⟨aJ (adK J (by have:=aDA fJ; omega) hR),S.E⟩
abbrev aeu(n:Int)(w:VO) :
  abB prog 193 #[.i n] w λe w'=>e = .R (.b (decide (1<=n)&&decide (n<=13)))∧w=w':=by
 skip;refine aCG func193 ntmps193 λS=>aCB S (.b ((decide (1<=n))&&(decide (n<=13)))) (λS=>?_);exact⟨I,I⟩
abbrev Le(n:Int)(w:VO) :
  abB prog 305 #[.i n] w λe w'=>e = .R (.b (iR n))∧w=w':=by
 skip;refine aCG func305 ntmps305 λS=>aCB S (.b ((decide (1<=n))&&(decide (n<=3)))) (λS=>?_);exact⟨I,I⟩
abbrev ahM(n:Int)(w:VO) :
  abB prog 271 #[.i n] w λe w'=>e = .R (.b (decide (1<=n)&&decide (n<=16384)))∧w=w':=by
 skip;refine aCG func271 ntmps271 λS=>aCB S (.b ((decide (1<=n))&&(decide (n<=16384)))) (λS=>?_);exact⟨I,I⟩
open Go.RowKit
variable{α:Type}
def qK(l s:List Int):Option Bool:=if s.all (λx=>decide (0<=x)&&decide (x<=1048576))then some (((l.length:Int)==0)||s.any (λx=>decide (0<x)))else none
def tu(l:List Int):Bool:=l.all (λx=>decide (0<=x)&&decide (x<=1048576))&&((((((l.length:Int)==0)||l.any (λx=>decide (0<x)))&&((Int.tmod (l.length:Int) 2)==0))&&(decide ((l.length:Int)<=16))))
variable{l:List Int}{k:Nat}{any:Bool}{v:aaT}
abbrev adM(l:List Int):qK l (l.take 0)=some ((l.length:Int)==0):=by simp[qK]
abbrev adN(hk:k<l.length)(D:qK l (l.take k)=some any)(J:((decide (l[k]<0))||(decide (1048576<l[k])))=false):qK l (l.take (k+1))=some (any||(decide (0<l[k]))):=by
 unfold qK at D |-;rw[aEj hk,List.all_append,List.any_append];simp only[aDX,aDQ]at J;split at D
 .rename_i h;obtain rfl:=aDo D;rw[h];simp[show 0<=l[k] by omega,show l[k]<=1048576 by omega,Bool.or_assoc]
 cases D
abbrev ahN(hk:k<l.length)(J:qK l (l.take k)=some any)(D:((decide (l[k]<0))||(decide (1048576<l[k])))=true):false=tu l:=by
 simp only[aEV,aDv]at D;unfold tu;rw[zo hk (by simp; omega)]; rfl
abbrev ahO(hk:l.length<=k)(D:qK l (l.take k)=some any):((any&&((Int.tmod (l.length:Int) 2)==0))&&(decide ((l.length:Int)<=16)))=tu l:=by
 unfold qK at D;rw[aDG hk]at D;split at D
 .rename_i h;obtain rfl:=aDo D;unfold tu;rw[h]; rfl
 cases D
def dO(b:Bool)(n:Int):aaT:=if b=true then .iface 213 (.agg #[.i n,.nilIface])else .nilIface
abbrev adO{b:Bool}{n:Int}{x:Operand}:∀w,(do eqGuard .neq 210 x (.const .nilIface) (dO b n) .nilIface; binOp .neq 210 (dO b n) .nilIface:Sem aaT).run prog w = .ok (.b (!(!b))) w:=λw=>by
 cases b<;>simp[dO,go_sem]
def kX:List (Bool×Int)->aaT
 | [] => .nilIface
 | p::l=>if p.1=true then .iface 213 (.agg #[.i 0,.iface 213 (.agg #[.i p.2,.nilIface])])else kX l
abbrev ZE{w:VO}(h:dH AU w v l) :
  abB prog 272 #[v] w (VH w (.b (tu l))):=by
 obtain⟨a,cap,rfl⟩:=(fM h).shape;have D:l.length<=9223372036854775807:=(fM h).len;refine aCG func272 ntmps272 λS=>aCZ S (ι:=Nat×Bool) (λp D w'=>p.1<=l.length∧(qK l (l.take p.1)=some p.2)∧Sx.St w D w' 39 [(0,.s a l.length cap),(2,.z),(3,.b p.2),(9,.s a l.length cap),(10,.i l.length),(11,.i p.1)] [] []) (λp=>l.length-p.1) (0,((l.length:Int)==0)) (λS=>⟨aDl _,adM l,S.qc⟩) ?_;rintro⟨k,any⟩ ac u gJ dW hI;try dsimp only at hI
 obtain⟨hk,hR,S⟩:=hI;refine aC0 S λS=>aCD S (decide ((k:Int)<(l.length:Int))) (λJ S=>?_) (λJ S=>?_)
 .have uy:k<l.length:=by have:=aDw J; omega
  obtain⟨b10,aa,rfl,D,BI,wP,QA⟩:=aDN (fM h) (λ_=>I) (k) uy;have S:=S.view0 wP QA;refine adr S 9 [] [.idx k l.length,.M 0 0] (hk:=⟨uy,G⟩) λS=>aCD S ((decide (D<0))||(decide (1048576<D))) (λrE S=>?_) (λrE S=>?_)
  .refine aCB S (.z) (λS=>?_);exact⟨aJ (ahN uy hR (by rw[BI]; exact rE)),S.E⟩
  refine adr S 8 [] [.re 26 (.i (IntKind.i64.wrap ((k:Int)+1))) (.i (k+1:Nat))] (hk:=⟨aCS Z,G⟩) λS=>aCY S gJ (λS=>?_);exact dW _ _ ((k+1),any||(decide (0<D))) ⟨Z,(by rw[<-BI]; exact adN uy hR (by rw[BI]; exact rE)),S.qc⟩ (by show _-_<_-_; omega)
 refine aCB S (.b ((any&&(((Int.tmod (l.length:Int) 2))==0))&&(decide ((l.length:Int)<=16)))) (λS=>?_);exact⟨aJ (ahO (by have:=aDA J; omega) hR),S.E⟩
def aZ.valid(p:aZ):Bool:=(((((((decide (1<=p.width)&&decide (p.width<=16384))&&((((p.join)==1)||((p.join)==2))||((p.join)==3)))&&((((p.cap)==3)||((p.cap)==4))||((p.cap)==5)))&&(decide (256<=p.fF)))&&(decide (p.fF<=65536)))&&(tu p.dash))&&(decide (0<=p.phase)))&&(decide (p.phase<=1048576))
def aZ.eq(p q:aZ):Bool:=((((((p.width)==q.width)&&((p.join)==q.join))&&((p.cap)==q.cap))&&((p.fF)==q.fF))&&((p.phase)==q.phase))&&(decide (p.dash=q.dash))
abbrev abw{w:VO}{p:aZ}(h:p.ok w) :
  abB prog 232 #[p.v] w (VH w (.b p.valid)):=by
 skip;refine aCG func232 ntmps232 λS=>aCF S λu b2 J D S=>adr S 31 [] [.M 0 1,.M 0 1,.M 0 1,.M 0 2,.M 0 2,.M 0 2,.M 0 0] λS=>Sx.mD S (ahM p.width _) λS=>aC6 S 32 [.M 0 3,.M 0 3,.M 0 4,.M 0 5,.M 0 5] [(_,_,(((((decide (1<=p.width)&&decide (p.width<=16384))&&((((p.join)==1)||((p.join)==2))||((p.join)==3)))&&((((p.cap)==3)||((p.cap)==4))||((p.cap)==5)))&&(decide (256<=p.fF)))&&(decide (p.fF<=65536))),.b (tu p.dash))] [(2,.b ((((((((decide (1<=p.width)&&decide (p.width<=16384))&&((((p.join)==1)||((p.join)==2))||((p.join)==3)))&&((((p.cap)==3)||((p.cap)==4))||((p.cap)==5)))&&(decide (256<=p.fF)))&&(decide (p.fF<=65536)))&&(tu p.dash))&&(decide (0<=p.phase)))&&(decide (p.phase<=1048576))))] ⟨λu D g=>ZE (h.2.2.2.2.1.below (K00 S.E D)),G⟩ λu J S=>aCB S (.b ((((((((decide (1<=p.width)&&decide (p.width<=16384))&&((((p.join)==1)||((p.join)==2))||((p.join)==3)))&&((((p.cap)==3)||((p.cap)==4))||((p.cap)==5)))&&(decide (256<=p.fF)))&&(decide (p.fF<=65536)))&&(tu p.dash))&&(decide (0<=p.phase)))&&(decide (p.phase<=1048576)))) (λS=>?_);exact⟨I,S.E⟩
abbrev xq{w:VO}{p q:aZ}(h:p.ok w)(h':q.ok w) :
  abB prog 140 #[p.v,q.v] w (VH w (.b (p.eq q))):=by
 skip;refine aCG func140 ntmps140 λS=>aCF S λu b2 J D S=>aCF S λu b5 J D S=>adr S 1 [] [] λS=>aC6 S 41 [.M 1 0,.M 0 0,.M 1 1,.M 0 1,.M 1 2,.M 0 2,.M 1 3,.M 0 3,.M 1 5,.M 0 5,.M 1 4,.M 0 4] [(_,_,((((((p.width)==q.width)&&((p.join)==q.join))&&((p.cap)==q.cap))&&((p.fF)==q.fF))&&((p.phase)==q.phase)),.b (p.dash=q.dash))] [(4,.b (((((((p.width)==q.width)&&((p.join)==q.join))&&((p.cap)==q.cap))&&((p.fF)==q.fF))&&((p.phase)==q.phase))&&(decide (p.dash=q.dash))))] ⟨λu D g=>adG (fM (h.2.2.2.2.1.below (K00 S.E D))) (fM (h'.2.2.2.2.1.below (K00 S.E D))),G⟩ λu J S=>aCB S (.b (((((((p.width)==q.width)&&((p.join)==q.join))&&((p.cap)==q.cap))&&((p.fF)==q.fF))&&((p.phase)==q.phase))&&(decide (p.dash=q.dash)))) (λS=>?_);exact⟨I,S.E⟩
abbrev SY(n:Int)(w:VO) :
  abB prog 186 #[.i n] w λe w'=>e = .R (.b ((n==1)||(n==2)))∧w=w':=by
 skip;refine aCG func186 ntmps186 λS=>aCB S (.b (((n)==1)||((n)==2))) (λS=>?_);exact⟨I,I⟩
abbrev jk(b:Bool)(n:Int)(w:VO) :
  abB prog 188 #[.b b,.i n] w λe w'=>e = .R (dO b n)∧w=w':=by
 skip;refine aCG func188 ntmps188 λS=>aCD S (!b) (λD S=>?_) (λD S=>?_)
 .refine aCB S (.nilIface) (λS=>?_);obtain rfl:b=false:=by simpa using D
  exact⟨I,I⟩
 refine aCB S (.iface 213 (.agg #[.i n,.nilIface])) (λS=>?_);obtain rfl:b=true:=by simpa using D
 exact⟨I,I⟩
abbrev first_any{w:VO}{l:List (Bool×Int)}(h:aI 1 (λp=>[dO p.1 p.2]) w v l) :
  abB prog 187 #[v] w (VH w (kX l)):=by
 obtain⟨a,cap,rfl⟩:=h.shape;have D:l.length<=9223372036854775807:=h.len;refine aCG func187 ntmps187 λS=>aCZ S (ι:=Nat) (λp D w'=>p<=l.length∧(kX l=kX (l.drop p))∧Sx.St w D w' 17 [(0,.s a l.length cap),(2,.nilIface),(5,.s a l.length cap),(6,.i l.length),(7,.i p)] [] []) (λp=>l.length-p) (0) (λS=>⟨aDl _,I,S.qc⟩) ?_;rintro k J u gJ dW D;try dsimp only at D
 obtain⟨hk,hR,S⟩:=D;refine aC0 S λS=>aCD S (decide ((k:Int)<(l.length:Int))) (λaa S=>?_) (λaa S=>?_)
 .have gZ:k<l.length:=by have:=aDw aa; omega
  obtain⟨b9,ab,rfl,D,jW,J,vH⟩:=aDN h (λ_=>I) (k) gZ;have S:=S.view0 J vH;refine adr S 5 [] [.idx k l.length,.M 0 0,.cmp .neq 210 (.tmp 11) (.const .nilIface) (dO D.1 D.2) .nilIface (.b (!(!D.1)))] (hk:=⟨gZ,adO,G⟩) λS=>aCD S (!(!D.1)) (λJ S=>?_) (λJ S=>?_)
  .have hb:D.1=true:=by simpa using J
   rw[show dO D.1 D.2 = .iface 213 (.agg #[.i D.2,.nilIface])from aDb hb]at S;try rw[show dO D.1 D.2 = .iface 213 (.agg #[.i D.2,.nilIface])from aDb hb]
   refine aCB S (.iface 213 (.agg #[.i 0,.iface 213 (.agg #[.i D.2,.nilIface])])) (λS=>?_);exact⟨by rw[hR,aEu gZ,jW,kX,aDb hb],S.E⟩
  refine adr S 2 [] [.re 16 (.i (IntKind.i64.wrap ((k:Int)+1))) (.i (k+1:Nat))] (hk:=⟨aCS Z,G⟩) λS=>aCY S gJ (λS=>?_);exact dW _ _ (k+1) ⟨Z,(by rw[hR,aEu gZ,jW,kX,aC9 (by simpa using J)]),S.qc⟩ (by show _-_<_-_; omega)
 refine aCB S (.nilIface) (λS=>?_);exact⟨by rw[hR,aEB (by have:=aDA aa; omega)]; rfl,S.E⟩
end Go.Proofs.Vy
namespace Go.Sx
open Go.Proofs.Vy Go.RowKit Go.Rel
section
variable{P:Program}{B:Exit->Act->VO->Prop}{n:Nat}{w0 w:VO}{a:Act}{bl:List (Nat×List aaT)}{vs:List fE}{z:Zt}
def rgF(r:Nat):Code->List Oper
 | .region id ops _=>if id==r then ops.toList else []
 | .seq a b=>match rgF r a with | []=>rgF r b | l=>l
 | .cond _ a b=>match rgF r a with | []=>rgF r b | l=>l
 | .block _ c=>rgF r c
 | .loop c=>rgF r c
 | _=>[]
def Wn(fn:Func)(r:Nat):List Oper:=rgF r (fn.body.getD .skip)
variable{fn:Func}{r:Nat}
abbrev WL(S:St w0 a w n z.l bl vs)(fn:Func)(r:Nat)(h:∀{a'},St w0 a' w n (zN P n z).l bl vs->∀id,(Code.region id (Wn fn r).toArray true).wp P (zp P B (zK (zN P n z))) a' w)(D:Ce (zN P n z)=Wn fn r:=by kernel_rfl)(J:KQ (zN P n z)=true:=by kernel_rfl):Gz P B z a w:=
 zd S (λS id=>D▸h S id) J
abbrev Qr{m:Nat}{new:List (Nat×aaT)}(S:St w0 a w n (new++z.l) bl vs)(h:St w0 a w n (GN m new z).l bl vs->Gz P B (GN m new z) a w)(D:Ce z=Wn fn r:=by kernel_rfl)(J:KQ z=true:=by kernel_rfl):aiw P (Wn fn r).toArray (zp P B (zK z)) ((Wn fn r).drop m) a w:=
 D▸zdo S h J
abbrev zdF{D:List (Nat×aaT)}(S:St w0 a w n D bl vs)(m:Nat)(h:St w0 a w n (⟨Gj m z.p,D⟩:Zt).l bl vs->Gz P B ⟨Gj m z.p,D⟩ a w)(J:Ce z=Wn fn r:=by kernel_rfl)(D:KQ z=true:=by kernel_rfl)(hm:((Wn fn r).drop m).isEmpty=true:=by kernel_rfl):aiw P (Wn fn r).toArray (zp P B (zK z)) [] a w:=by
 have:=akd (P:=P) (B:=B) (a:=a) (w:=w) (m:=m) D (h S);rw[J,List.isEmpty_iff.1 hm]at this;exact this
end
end Go.Sx
end
namespace Go.Proofs.Vy
section
open Go.RowKit
variable{α:Type}
variable{p q:Bool×Nat×Nat}
abbrev Fb(v:aaT)(Q:Q6)(K:Nat)(w:VO)(h:nG K w v Q)(D:K<=100000) :
  abB prog 180 #[v] w λe w'=>∃x,e = .R x∧tJ w.heap.size w' x Q∧Ext w w':=by
 obtain⟨t,rfl,J,h1,h2,h3,h4,h5⟩:=h.sQ;refine aCG func180 ntmps180 λS=>aCJ S t.cells λu b2 E3 D S=>aCJ S Sx.za λu b5 E6 D S=>adr S 13 [] [.M 1 0,.M 1 4,.M 1 8,.M 1 12,.M 1 16,.M 1 20] λS=>aCJ S Sx.za λu b9 Pv D S=>aCP S 0 (off:=0) (cs:=t.cells) I λu D S=>adr S 2 [] [.M 0 0] λS=>Sx.ZV S 6 λS=>aCM S λS=>aCJ S Sx.zr λu D zO xJ S=>aCP S 0 (off:=0) (cs:=t.a.cells) I λu D S=>adr S 2 [] [.M 0 0] λS=>aCR S (kC _ _ K _ (J.below S.E) Z) ?_;rintro e u ⟨x,rfl,x0,J⟩;obtain⟨r0,rfl⟩:=aC.iV x0;have D:=S.E.size;have D:=(S.bx 0).1;have D:=(S.bx 1).1;have D:=(S.bx 2).1;have D:=(S.bx 3).1;refine⟨_,I,J,λS=>?_⟩;refine aCP S 1 (off:=0) (cs:=r0.cells) I (λu D S=>?_);have ED:=aC.ch x0 D Z;refine aCM S λS=>aCJ S Sx.zr λu D J a8 S=>aCP S 0 (off:=0) (cs:=t.b.cells) I (λu D S=>?_);have S:=S.fl;have WA:=aCI J D;refine adr S 2 [] [.M 0 0] λS=>aCR S (kC _ _ K _ (h1.below S.E) Z) ?_;rintro e u ⟨x,rfl,x1,J⟩;obtain⟨r1,rfl⟩:=aC.iV x1;have y1:=S.E.size;have D:=(S.bx 0).1;have D:=(S.bx 1).1;have D:=(S.bx 2).1;have D:=(S.bx 3).1;have D:=(S.bx 4).1;refine⟨_,I,J,λS=>?_⟩;refine aCP S 2 (off:=4) (cs:=r1.cells) I (λu D S=>?_);have zX:=aC.ch (ED.ext (K00 WA J)) D Z;have xU:=aC.ch x1 D Z;refine aCM S λS=>aCJ S Sx.zr λu J D WW S=>aCP S 0 (off:=0) (cs:=t.c.cells) I (λu J S=>?_);have aa:=aCI D J;have TB:=aCI D J;refine adr S 2 [] [.M 0 0] λS=>aCR S (kC _ _ K _ (h2.below S.E) Z) ?_;rintro e u ⟨x,rfl,x2,J⟩;obtain⟨r2,rfl⟩:=aC.iV x2;have y2:=S.E.size;have D:=(S.bx 0).1;have D:=(S.bx 1).1;have D:=(S.bx 2).1;have D:=(S.bx 3).1;have D:=(S.bx 4).1;have D:=(S.bx 5).1;refine⟨_,I,J,λS=>?_⟩;refine aCP S 3 (off:=8) (cs:=r2.cells) I (λu D S=>?_);have IZ:=aC.ch (zX.ext (K00 aa J)) D Z;have Dw:=aC.ch (xU.ext (K00 TB J)) D Z;have Dx:=aC.ch x2 D Z;refine aCM S λS=>aCJ S Sx.zr λu J D a9 S=>aCP S 0 (off:=0) (cs:=t.d.cells) I (λu J S=>?_);have S:=S.fl;have ab:=aCI D J;have ac:=aCI D J;have ae:=aCI D J;refine adr S 2 [] [.M 0 0] λS=>aCR S (kC _ _ K _ (h3.below S.E) Z) ?_;rintro e u ⟨x,rfl,x3,J⟩;obtain⟨r3,rfl⟩:=aC.iV x3;have D:=S.E.size;have D:=(S.bx 0).1;have D:=(S.bx 1).1;have D:=(S.bx 2).1;have D:=(S.bx 3).1;have D:=(S.bx 4).1;have D:=(S.bx 5).1;have D:=(S.bx 6).1;refine⟨_,I,J,λS=>?_⟩;refine aCP S 4 (off:=12) (cs:=r3.cells) I (λu D S=>?_);have I5:=aC.ch (IZ.ext (K00 ab J)) D Z;have PV:=aC.ch (Dw.ext (K00 ac J)) D Z;have af:=aC.ch (Dx.ext (K00 ae J)) D Z;have ag:=aC.ch x3 D Z;refine aCM S λS=>aCJ S Sx.zr λu J D bb S=>aCP S 0 (off:=0) (cs:=t.e.cells) I (λu J S=>?_);have ah:=aCI D J;have ai:=aCI D J;have al:=aCI D J;have am:=aCI D J;refine adr S 2 [] [.M 0 0] λS=>aCR S (kC _ _ K _ (h4.below S.E) Z) ?_;rintro e u ⟨x,rfl,x4,J⟩;obtain⟨r4,rfl⟩:=aC.iV x4;have D:=S.E.size;have D:=(S.bx 0).1;have D:=(S.bx 1).1;have D:=(S.bx 2).1;have D:=(S.bx 3).1;have D:=(S.bx 4).1;have D:=(S.bx 5).1;have D:=(S.bx 6).1;have D:=(S.bx 7).1;refine⟨_,I,J,λS=>?_⟩;refine aCP S 5 (off:=16) (cs:=r4.cells) I (λu D S=>?_);have an:=aC.ch (I5.ext (K00 ah J)) D Z;have Ue:=aC.ch (PV.ext (K00 ai J)) D Z;have XZ:=aC.ch (af.ext (K00 al J)) D Z;have X0:=aC.ch (ag.ext (K00 am J)) D Z;have ao:=aC.ch x4 D Z;refine aCM S λS=>aCJ S Sx.zr λu J D bc S=>aCP S 0 (off:=0) (cs:=t.f.cells) I (λu J S=>?_);have S:=S.fl;have ap:=aCI D J;have aq:=aCI D J;have ar:=aCI D J;have av:=aCI D J;have aw:=aCI D J;refine adr S 2 [] [.M 0 0] λS=>aCR S (kC _ _ K _ (h5.below S.E) Z) ?_;rintro e u ⟨x,rfl,x5,D⟩;obtain⟨r5,rfl⟩:=aC.iV x5;have J:=S.E.size;have J:=(S.bx 0).1;have J:=(S.bx 1).1;have J:=(S.bx 2).1;have J:=(S.bx 3).1;have J:=(S.bx 4).1;have J:=(S.bx 5).1;have J:=(S.bx 6).1;have J:=(S.bx 7).1;have J:=(S.bx 8).1;refine⟨_,I,D,λS=>?_⟩;refine aCP S 6 (off:=20) (cs:=r5.cells) I (λu J S=>?_);have UO:=aC.ch (an.ext (K00 ap D)) J Z;have UQ:=aC.ch (Ue.ext (K00 aq D)) J Z;have UR:=aC.ch (XZ.ext (K00 ar D)) J Z;have ax:=aC.ch (X0.ext (K00 av D)) J Z;have ay:=aC.ch (ao.ext (K00 aw D)) J Z;have az:=aC.ch x5 J Z;refine aCT S λS=>adr S 1 [] [.M 6 0] λS=>aCP S 7 (off:=0) (cs:=(r0.cells++r1.cells++r2.cells++r3.cells++r4.cells++r5.cells)) I (λu D S=>?_);have J:=aC.ch UO D Z;have a3:=aC.ch UQ D Z;have a4:=aC.ch UR D Z;have a5:=aC.ch ax D Z;have a6:=aC.ch ay D Z;have a7:=aC.ch az D Z;refine aCU S 7 I (v := .agg (r0.cells++r1.cells++r2.cells++r3.cells++r4.cells++r5.cells).toArray) (λS=>?_);exact⟨_,I,eG.of (t:=⟨r0,r1,r2,r3,r4,r5⟩) (aC.mono J Z) (aC.mono a3 Z) (aC.mono a4 Z) (aC.mono a5 Z) (aC.mono a6 Z) (aC.mono a7 Z),S.E⟩
abbrev jP{n:Nat}(h:decide (256<(n:Int))=false):decide (n<=256)=true:=by
 simp only[aDv,aDQ]at h |-;omega
abbrev O5{n:Nat}(h:decide (256<(n:Int))=true):decide (n<=256)=false:=by
 simp only[aDv,aDQ]at h |-;omega
abbrev jQ(h:(mZ p q != 0)=false):qx p q=true:=by unfold qx; simpa[bne]using h
abbrev O6(h:(mZ p q != 0)=true):qx p q=false:=by unfold qx; simpa[bne]using h
abbrev IC(v:aaT)(Q:Q6)(K:Nat)(w:VO)(h:nG K w v Q)(aa:1<=K)(D:K<=100000) :
  abB prog 189 #[v] w (VH w (.b Q.valid)):=by
 have J:=h;obtain⟨ay,az,a3,a4,a5,a6⟩:=h.nrm;obtain⟨a7,a8,a9,bb,bc,bd⟩:=h.len aa;obtain⟨t,rfl,D,h1,h2,h3,h4,h5⟩:=h.sQ;refine aCG func189 ntmps189 λS=>aCF S λu b2 E3 D S=>adr S 2 [] [.M 0 0] λS=>aCR S (Fb _ Q K _ (J.iU S.E) Z) ?_;rintro e u ⟨x,rfl,hm,D⟩;obtain⟨m,rfl,-⟩:=hm.sT;refine⟨_,I,D,λS=>?_⟩;refine Sx.ZV S 6 λS=>aCM S λS=>aCF S λu D Gn J S=>aCH S 0 I (λu D S=>?_);have J:=aCI Gn D;refine adr S 1 [] [.M 0 0] λS=>aCQ S (nZ _ Q.a K _ (aC.toQ (hm.uM J).pa ay a7) aa Z) λu AZ S=>aCD S (decide (256<(eU Q.a:Int))) (λD S=>?_) (λD S=>?_)
 .have g0:decide (eU Q.a<=256)=false:=O5 D;refine aCB S (.z) (λS=>?_);exact⟨by rw[show Q.valid=false from by simp[Q6.valid,g0]],S.E⟩
 refine aCM S λS=>aCF S λu be PS Gu S=>aCH S 0 I (λu GH S=>?_);have zQ:=aCI (K00 J (K00 AZ PS)) GH (by have:=(K00 J AZ).size; omega);refine adr S 1 [] [.M 0 0] λS=>aCQ S (nZ _ Q.b K _ (aC.toQ (hm.uM zQ).pb az a8) aa Z) λu A8 S=>aCD S (decide (256<(eU Q.b:Int))) (λJ S=>?_) (λJ S=>?_)
 .have g0:decide (eU Q.a<=256)=true:=jP D;have g1:decide (eU Q.b<=256)=false:=O5 J;refine aCB S (.z) (λS=>?_);exact⟨by rw[show Q.valid=false from by simp[Q6.valid,g0,g1]],S.E⟩
 refine aCM S λS=>aCF S λu bg TL bh S=>aCH S 0 I (λu an S=>?_);have af:=aCI (K00 zQ (K00 A8 TL)) an (by have:=(K00 zQ A8).size; omega);refine adr S 1 [] [.M 0 0] λS=>aCQ S (nZ _ Q.c K _ (aC.toQ (hm.uM af).pc a3 a9) aa Z) λu ai S=>aCD S (decide (256<(eU Q.c:Int))) (λD6 S=>?_) (λD6 S=>?_)
 .have g0:decide (eU Q.a<=256)=true:=jP D;have g1:decide (eU Q.b<=256)=true:=jP J;have g2:decide (eU Q.c<=256)=false:=O5 D6;refine aCB S (.z) (λS=>?_);exact⟨by rw[show Q.valid=false from by simp[Q6.valid,g0,g1,g2]],S.E⟩
 refine aCM S λS=>aCF S λu bj ao bk S=>aCH S 0 I (λu ap S=>?_);have S:=S.fl;have ag:=aCI (K00 af (K00 ai ao)) ap (by have:=(K00 af ai).size; omega);refine adr S 1 [] [.M 0 0] λS=>aCQ S (nZ _ Q.d K _ (aC.toQ (hm.uM ag).pd a4 bb) aa Z) λu al S=>aCD S (decide (256<(eU Q.d:Int))) (λab S=>?_) (λab S=>?_)
 .have g0:decide (eU Q.a<=256)=true:=jP D;have g1:decide (eU Q.b<=256)=true:=jP J;have g2:decide (eU Q.c<=256)=true:=jP D6;have g3:decide (eU Q.d<=256)=false:=O5 ab;refine aCB S (.z) (λS=>?_);exact⟨by rw[show Q.valid=false from by simp[Q6.valid,g0,g1,g2,g3]],S.E⟩
 refine aCM S λS=>aCF S λu bm aq bo S=>aCH S 0 I (λu ar S=>?_);have ah:=aCI (K00 ag (K00 al aq)) ar (by have:=(K00 ag al).size; omega);refine adr S 1 [] [.M 0 0] λS=>aCQ S (nZ _ Q.e K _ (aC.toQ (hm.uM ah).pe a5 bc) aa Z) λu am S=>aCD S (decide (256<(eU Q.e:Int))) (λac S=>?_) (λac S=>?_)
 .have g0:decide (eU Q.a<=256)=true:=jP D;have g1:decide (eU Q.b<=256)=true:=jP J;have g2:decide (eU Q.c<=256)=true:=jP D6;have g3:decide (eU Q.d<=256)=true:=jP ab;have g4:decide (eU Q.e<=256)=false:=O5 ac;refine aCB S (.z) (λS=>?_);exact⟨by rw[show Q.valid=false from by simp[Q6.valid,g0,g1,g2,g3,g4]],S.E⟩
 refine aCM S λS=>aCF S λu bp av bq S=>aCH S 0 I (λu aw S=>?_);have ax:=aCI (K00 ah (K00 am av)) aw (by have:=(K00 ah am).size; omega);refine adr S 1 [] [.M 0 0] λS=>aCQ S (nZ _ Q.f K _ (aC.toQ (hm.uM ax).pf a6 bd) aa Z) λu br S=>aCD S (decide (256<(eU Q.f:Int))) (λae S=>?_) (λae S=>?_)
 .have g0:decide (eU Q.a<=256)=true:=jP D;have g1:decide (eU Q.b<=256)=true:=jP J;have g2:decide (eU Q.c<=256)=true:=jP D6;have g3:decide (eU Q.d<=256)=true:=jP ab;have g4:decide (eU Q.e<=256)=true:=jP ac;have g5:decide (eU Q.f<=256)=false:=O5 ae;refine aCB S (.z) (λS=>?_);exact⟨by rw[show Q.valid=false from by simp[Q6.valid,g0,g1,g2,g3,g4,g5]],S.E⟩
 refine aCT S (λS=>?_);have g0:decide (eU Q.a<=256)=true:=jP D;have g1:decide (eU Q.b<=256)=true:=jP J;have g2:decide (eU Q.c<=256)=true:=jP D6;have g3:decide (eU Q.d<=256)=true:=jP ab;have g4:decide (eU Q.e<=256)=true:=jP ac;have g5:decide (eU Q.f<=256)=true:=jP ae;refine aCB S (.b true) (λS=>?_);exact⟨by rw[show Q.valid=true from by simp[Q6.valid,g0,g1,g2,g3,g4,g5]],S.E⟩
abbrev ZT(v:aaT)(Q:Q6)(K:Nat)(w:VO)(h:nG K w v Q)(D:1<=K)(J:K<=10000) :
  abB prog 230 #[v] w λe w'=>∃x,e = .R x∧dQ w.heap.size w' x Q.Fp∧Ext w w':=by
 have J:=h;obtain⟨J,af,ag,ah,ai,al⟩:=h.nrm;obtain⟨aa,ab,ac,ae,J,am⟩:=h.len D;obtain⟨t,rfl,h0,h1,h2,h3,J,h5⟩:=h.sQ;refine aCG func230 ntmps230 λS=>aCJ S t.cells λu b2 E3 J S=>aCJ S Sx.zr λu b5 E6 J S=>Sx.jm S 11 [(7,λv w1=>dQ w.heap.size w1 v (Cb Q.a Q.d)),(12,λv w1=>dQ w.heap.size w1 v (Cb Q.b Q.c)),(13,λv w1=>dQ w.heap.size w1 v Q.Fp)] (λr=>[.M 1 0,.M 1 12,.M 1 4,.M 1 8]) (λx=>[x 7,x 12,x 13]) (λx=>[(_,_,true,x 7,7),(_,_,true,x 12,12),(_,_,true,x 13,13)]) [[],[],[7,12]] (λx=>[(13,x 13)]) ⟨λ_ _ _ k h=>h.ext k,λ_ _ _ k h=>h.ext k,λ_ _ _ k h=>h.ext k,G⟩ (λx=>⟨by intro u J g F; exact(V6 _ _ Q.a Q.d K K _ (h0.below (K00 S.E J)) (h3.below (K00 S.E J)) D D Z Z).mono λe w2 h=>by obtain⟨y,rfl,hx,hb⟩:=h; exact⟨_,I,hx.mono ((K00 S.E J)).size,hb⟩,by intro u J g F; exact(V6 _ _ Q.b Q.c K K _ (h1.below (K00 S.E J)) (h2.below (K00 S.E J)) D D Z Z).mono λe w2 h=>by obtain⟨y,rfl,hx,hb⟩:=h; exact⟨_,I,hx.mono ((K00 S.E J)).size,hb⟩,by intro u J g F; obtain⟨F7,G7,-⟩:=F; exact(ahF _ _ (Cb Q.a Q.d) (Cb Q.b Q.c) (K+K) (K+K) _ (aC.toQ F7 (Zu _ _) (Ea D aa ae)) (aC.toQ G7 (Zu _ _) (Ea D ab ac)) Z Z Z Z).mono λe w2 h=>by obtain⟨y,rfl,hx,hb⟩:=h; exact⟨_,I,hx.mono ((K00 S.E J)).size,hb⟩,G⟩) (λu x D F S=>?_);obtain⟨F7,G7,J,-⟩:=F;obtain⟨m,D⟩:=aC.iV J;rw[D]at S J;try rw[D]
 have WG:=S.bx 0;refine aCP S 0 (off:=0) (cs:=m.cells) I (λu D S=>?_);have Dc:=aC.eF J D WG;refine aCU S 0 I (v:=m.v) (λS=>?_);exact⟨_,I,Dc,S.E⟩
abbrev Bf(v1 v2:aaT)(P Q:Q6)(K:Nat)(w:VO)(J:nG K w v1 P)(hq:nG K w v2 Q)(D:1<=K)(hK:K<=10000) :
  abB prog 136 #[v1,v2] w (VH w (.b (P.eq Q))):=by
 obtain⟨bd,be,bg,bh,bj,bk⟩:=J.nrm;obtain⟨bm,bo,bp,bq,br,bs⟩:=J.len D;obtain⟨bt,bu,bv,bw,bz,ca⟩:=hq.nrm;obtain⟨cb,cc,cd,ce,cf,cg⟩:=hq.len D;obtain⟨t,rfl,-⟩:=J.sQ;obtain⟨s,rfl,-⟩:=hq.sQ;refine aCG func136 ntmps136 λS=>aCF S λu b2 E3 ci S=>aCF S (λu b5 E6 cj S=>?_);have ai:=λp J=>(S.own p J).1.1;have jw:=S.E.size;refine Sx.WL S f136 1 λS id=>aFk X<|Sx.ao1 [(4,5),(5,6)] S 6 [(10,λv w1=>tJ w.heap.size w1 v P),(12,λv w1=>tJ w.heap.size w1 v Q),(5,Sx.iO u.heap.size Sx.za none),(6,Sx.iO u.heap.size Sx.za none)] (λr=>[.M 1 0,.M 0 0,.new 5 Sx.za none r,.new 6 Sx.za none r]) (λx=>[x 10,x 12,x 5,x 6]) (λx=>[(_,_,true,x 10,10),(_,_,true,x 12,12)]) [[],[]] (λx=>[(5,x 5),(6,x 6),(10,x 10),(12,x 12)]) ⟨λ_ _ _ k h=>eG.uM h k,λ_ _ _ k h=>eG.uM h k,Sx.iO.mono,Sx.iO.mono,G⟩ (λx=>⟨by intro u hC g F; exact(Fb _ P K _ (J.iU (K00 S.E hC)) Z).mono λe w2 h=>by obtain⟨x,rfl,hx,hb⟩:=h; exact⟨_,I,hx.alz ((K00 S.E hC)).size,hb⟩,by intro u hC g F; exact(Fb _ Q K _ (hq.iU (K00 S.E hC)) Z).mono λe w2 h=>by obtain⟨x,rfl,hx,hb⟩:=h; exact⟨_,I,hx.alz ((K00 S.E hC)).size,hb⟩,G⟩) (hN:=λr=>⟨⟨I,I⟩,⟨I,I⟩,G⟩) (hk:=λr=>⟨G,G,G⟩) (hA:=⟨⟨_,_,_,I,I,I,I,I⟩,⟨_,_,_,I,I,I,I,I⟩,G⟩) λac u x E9 F AP S=>Sx.Qr S (λS=>?_);obtain⟨av,G7,F5,F6,-⟩:=F;obtain⟨m,em,-⟩:=av.sT;rw[em]at S av;try rw[em]
 obtain⟨n,em,-⟩:=G7.sT;rw[em]at S G7;try rw[em]
 obtain⟨b10,F5,IK,WG⟩:=F5;rw[F5]at S;try rw[F5]
 have S:=S.adopt (A:=Sx.za) WG Z (λp J=>by have:=ai p J; omega) (λm hm=>by cases hm);obtain⟨da,F6,db,LG⟩:=F6;rw[F6]at S;try rw[F6]
 have S:=S.adopt (A:=Sx.za) LG Z (λp J=>by exact(aDp.1 J).elim (λe e2=>AP (4,5) Y (5,6) Y O (F5.trans ((aDc (Sx.shV none) ((aDc Prod.fst e).symm.trans e2)).trans F6.symm))) (λJ=>by have:=ai p J; omega)) (λm hm=>by cases hm);have a9:=S.bx 1;refine aCH S 1 I (λu J S=>?_);have DV:=eG.eF av J a9;have oG:=eG.eF G7 J a9;have J:=S.bx 0;refine aCH S 0 I (λu Ag S=>?_);have wS:=eG.eF DV Ag J;have JO:=eG.eF oG Ag J;refine adr S 2 [] [.M 1 0] λS=>Sx.ZV S 6 λS=>aCM S λS=>aCF S λu ck J cm S=>aCH S 0 I (λu PU S=>?_);have WA:=aCI J PU;have LK:=aCI J PU;refine aCV S 6 [.M 0 0,.M 1 0] [(_,_,true,.i (mZ P.a Q.a))] [(23,.b (((mZ P.a Q.a)) != 0))] ⟨λu hC g=>mP _ _ P.a Q.a K K _ (aC.toQ (wS.uM (K00 WA hC)).pa bd bm) (aC.toQ (JO.uM (K00 LK hC)).pa bt cb) D D Z Z,G⟩ λu Gs S=>aCD S (((mZ P.a Q.a)) != 0) (λJ S=>?_) (λJ S=>?_)
 .have g0:qx P.a Q.a=false:=O6 J;refine aCB S (.z) (λS=>?_);exact⟨by rw[show P.eq Q=false from by simp[Q6.eq,g0]],S.E⟩
 refine aCM S λS=>aCF S λu cn aw co S=>aCH S 0 I (λu ax S=>?_);have S:=S.fl;have TB:=aCI (K00 WA (K00 Gs aw)) ax (by have:=(K00 WA Gs).size; omega);have al:=aCI (K00 LK (K00 Gs aw)) ax (by have:=(K00 LK Gs).size; omega);refine aCV S 6 [.M 0 0,.M 2 4] [(_,_,true,.i (mZ P.b Q.b))] [(23,.b (((mZ P.b Q.b)) != 0))] ⟨λu hC g=>mP _ _ P.b Q.b K K _ (aC.toQ (wS.uM (K00 TB hC)).pb be bo) (aC.toQ (JO.uM (K00 al hC)).pb bu cc) D D Z Z,G⟩ λu ab S=>aCD S (((mZ P.b Q.b)) != 0) (λsV S=>?_) (λsV S=>?_)
 .have g0:qx P.a Q.a=true:=jQ J;have g1:qx P.b Q.b=false:=O6 sV;refine aCB S (.z) (λS=>?_);exact⟨by rw[show P.eq Q=false from by simp[Q6.eq,g0,g1]],S.E⟩
 refine aCM S λS=>aCF S λu cq ay ct S=>aCH S 0 I (λu az S=>?_);have am:=aCI (K00 TB (K00 ab ay)) az (by have:=(K00 TB ab).size; omega);have an:=aCI (K00 al (K00 ab ay)) az (by have:=(K00 al ab).size; omega);refine aCV S 6 [.M 0 0,.M 3 8] [(_,_,true,.i (mZ P.c Q.c))] [(23,.b (((mZ P.c Q.c)) != 0))] ⟨λu hC g=>mP _ _ P.c Q.c K K _ (aC.toQ (wS.uM (K00 am hC)).pc bg bp) (aC.toQ (JO.uM (K00 an hC)).pc bv cd) D D Z Z,G⟩ λu ae S=>aCD S (((mZ P.c Q.c)) != 0) (λaa S=>?_) (λaa S=>?_)
 .have g0:qx P.a Q.a=true:=jQ J;have g1:qx P.b Q.b=true:=jQ sV;have g2:qx P.c Q.c=false:=O6 aa;refine aCB S (.z) (λS=>?_);exact⟨by rw[show P.eq Q=false from by simp[Q6.eq,g0,g1,g2]],S.E⟩
 refine aCM S λS=>aCF S λu cu a3 cv S=>aCH S 0 I (λu a4 S=>?_);have ao:=aCI (K00 am (K00 ae a3)) a4 (by have:=(K00 am ae).size; omega);have ap:=aCI (K00 an (K00 ae a3)) a4 (by have:=(K00 an ae).size; omega);refine aCV S 6 [.M 0 0,.M 4 12] [(_,_,true,.i (mZ P.d Q.d))] [(23,.b (((mZ P.d Q.d)) != 0))] ⟨λu hC g=>mP _ _ P.d Q.d K K _ (aC.toQ (wS.uM (K00 ao hC)).pd bh bq) (aC.toQ (JO.uM (K00 ap hC)).pd bw ce) D D Z Z,G⟩ λu af S=>aCD S (((mZ P.d Q.d)) != 0) (λQ9 S=>?_) (λQ9 S=>?_)
 .have g0:qx P.a Q.a=true:=jQ J;have g1:qx P.b Q.b=true:=jQ sV;have g2:qx P.c Q.c=true:=jQ aa;have g3:qx P.d Q.d=false:=O6 Q9;refine aCB S (.z) (λS=>?_);exact⟨by rw[show P.eq Q=false from by simp[Q6.eq,g0,g1,g2,g3]],S.E⟩
 refine aCM S λS=>aCF S λu cw a5 cx S=>aCH S 0 I (λu a6 S=>?_);have aq:=aCI (K00 ao (K00 af a5)) a6 (by have:=(K00 ao af).size; omega);have ar:=aCI (K00 ap (K00 af a5)) a6 (by have:=(K00 ap af).size; omega);refine aCV S 6 [.M 0 0,.M 5 16] [(_,_,true,.i (mZ P.e Q.e))] [(23,.b (((mZ P.e Q.e)) != 0))] ⟨λu hC g=>mP _ _ P.e Q.e K K _ (aC.toQ (wS.uM (K00 aq hC)).pe bj br) (aC.toQ (JO.uM (K00 ar hC)).pe bz cf) D D Z Z,G⟩ λu ag S=>aCD S (((mZ P.e Q.e)) != 0) (λah S=>?_) (λah S=>?_)
 .have g0:qx P.a Q.a=true:=jQ J;have g1:qx P.b Q.b=true:=jQ sV;have g2:qx P.c Q.c=true:=jQ aa;have g3:qx P.d Q.d=true:=jQ Q9;have g4:qx P.e Q.e=false:=O6 ah;refine aCB S (.z) (λS=>?_);exact⟨by rw[show P.eq Q=false from by simp[Q6.eq,g0,g1,g2,g3,g4]],S.E⟩
 refine aCM S λS=>aCF S λu cy a7 cz S=>aCH S 0 I (λu a8 S=>?_);have S:=S.fl;have bb:=aCI (K00 aq (K00 ag a7)) a8 (by have:=(K00 aq ag).size; omega);have bc:=aCI (K00 ar (K00 ag a7)) a8 (by have:=(K00 ar ag).size; omega);refine aCV S 6 [.M 0 0,.M 6 20] [(_,_,true,.i (mZ P.f Q.f))] [(23,.b (((mZ P.f Q.f)) != 0))] ⟨λu hC g=>mP _ _ P.f Q.f K K _ (aC.toQ (wS.uM (K00 bb hC)).pf bk bs) (aC.toQ (JO.uM (K00 bc hC)).pf ca cg) D D Z Z,G⟩ λu c0 S=>aCD S (((mZ P.f Q.f)) != 0) (λD S=>?_) (λD S=>?_)
 .have g0:qx P.a Q.a=true:=jQ J;have g1:qx P.b Q.b=true:=jQ sV;have g2:qx P.c Q.c=true:=jQ aa;have g3:qx P.d Q.d=true:=jQ Q9;have g4:qx P.e Q.e=true:=jQ ah;have g5:qx P.f Q.f=false:=O6 D;refine aCB S (.z) (λS=>?_);exact⟨by rw[show P.eq Q=false from by simp[Q6.eq,g0,g1,g2,g3,g4,g5]],S.E⟩
 refine aCT S (λS=>?_);have g0:qx P.a Q.a=true:=jQ J;have g1:qx P.b Q.b=true:=jQ sV;have g2:qx P.c Q.c=true:=jQ aa;have g3:qx P.d Q.d=true:=jQ Q9;have g4:qx P.e Q.e=true:=jQ ah;have g5:qx P.f Q.f=true:=jQ D;refine aCB S (.b true) (λS=>?_);exact⟨by rw[show P.eq Q=true from by simp[Q6.eq,g0,g1,g2,g3,g4,g5]],S.E⟩
def bM.none:bM:=⟨false,Option.none,0,[],false,Option.none,0,[]⟩
abbrev K08:bM.none.q=q0:=by decide
def bG.none:bG:=⟨.none,.none,.none,.none,.none,.none⟩
abbrev bM.gW(w:VO):bM.none.ok w:=⟨⟨Option.none,0,I,aDl _,.inl ⟨I,λ_=>rfl⟩⟩,⟨Option.none,0,I,aDl _,.inl ⟨I,λ_=>rfl⟩⟩⟩
abbrev bM.iM(K:Nat):bM.none.fit K:=⟨aDl _,aDl _⟩
abbrev bG.gW(w:VO):bG.none.ok w:=⟨bM.gW w,bM.gW w,bM.gW w,bM.gW w,bM.gW w,bM.gW w⟩
abbrev bG.iM(K:Nat):bG.none.fit K:=⟨bM.iM K,bM.iM K,bM.iM K,bM.iM K,bM.iM K,bM.iM K⟩
def dI.bare:dI:=⟨0,0,Option.none,0,[]⟩
abbrev fC:I64 0:=⟨by decide,by decide⟩
abbrev dI.gV(w:VO):dI.bare.ok w:=⟨fC,fC,dJ _ _ _⟩
def kL.none:kL:=⟨0,0⟩
abbrev kL.gW:kL.none.ok:=⟨fC,fC⟩
def bJ.none:bJ:=⟨0,0,0,0⟩
def ak.bare(k:Int):ak:=⟨k,.none,.none,.none,0,Option.none,0,[],0,.bare,0,.none⟩
abbrev ak.gV{k:Int}(hk:I64 k)(w:VO):(ak.bare k).ok w:=⟨hk,kL.gW,kL.gW,fC,dJ _ _ _,λs D=>by simp[ak.bare]at D,fC,dI.gV w,fC,bG.gW w⟩
def ak.ae1(p:ak):ak:={ p with t := .none,color := .none }
def ak.only2(p:ak):ak:={ p with t := .none,p0 := .none,p1 := .none,sva:=Option.none,svc:=0,stops:=[],spread:=0 }
def ak.ae2(p:ak):ak:={ p with t := .none,p0 := .none,bY:=0,sva:=Option.none,svc:=0,stops:=[],spread:=0 }
def ak.ae3(p:ak):ak:={ p with t := .none,img := .bare,spread:=0,dD:=0 }
def ak.ae4(p:ak):ak:={ p with t := .none }
def ak.without(p:ak):ak:=cond (p.kind==1) p.ae1 (cond (p.kind==2) p.only2 (cond (p.kind==3) p.ae2 (cond (p.kind==4) p.ae3 p.ae4)))
abbrev ak.ZF{w:VO}{p:ak}(h:p.ok w):p.without.ok w:=by
 obtain⟨D,h2,J,S,h5,h6,h7,h8,h9,aa⟩:=h;have a:=bG.gW w;have r:=dJ 5 dK.cells w;have n:∀s∈([]:List dK),s.ok:=λs hs=>by simp at hs
 unfold ak.without;cases (p.kind==1)<;>cases (p.kind==2)<;>cases (p.kind==3)<;>cases (p.kind==4);all_goals first
  | exact⟨D,h2,J,S,h5,h6,h7,h8,h9,a⟩
  | exact⟨D,kL.gW,kL.gW,S,r,n,fC,h8,h9,a⟩
  | exact⟨D,kL.gW,J,fC,r,n,fC,h8,h9,a⟩
  | exact⟨D,h2,J,S,h5,h6,fC,dI.gV w,fC,a⟩
abbrev ak.Wp(p:ak)(K:Nat):p.without.t.fit K:=by
 unfold ak.without;cases (p.kind==1)<;>cases (p.kind==2)<;>cases (p.kind==3)<;>cases (p.kind==4);all_goals exact bG.iM K
abbrev uV(w:VO):fA 1 w (.agg #[.z,.sn,.z,.sn]) q0:=by
 rw[<-K08]; exact bM.toQ (r:=bM.none) (bM.gW w) (bM.iM 1)
abbrev G5(Q:Q6):Nw Q.Fp:=Zu _ _
abbrev G6{K:Nat}{Q:Q6}(D:1<=K)(h:Tf K Q):qlen (K+K+(K+K)+1) Q.Fp:=ahC (by omega) (Ea D h.1 h.2.2.2.1) (Ea D h.2.1 h.2.2.1)
abbrev K05{K:Nat}{w:VO}{v:aaT}{Q:Q6}(h:nG K w v Q)(D:1<=K):Tf K Q:=h.len D
def ak.eq(p q:ak):Bool:=((((((((((p.kind)==q.kind)&&(((p.color.r.toNat:Int)==(q.color.r.toNat:Int))&&(((p.color.g.toNat:Int)==(q.color.g.toNat:Int))&&(((p.color.b.toNat:Int)==(q.color.b.toNat:Int))&&((p.color.a.toNat:Int)==(q.color.a.toNat:Int))))))&&((p.p0.x==q.p0.x)&&(p.p0.y==q.p0.y)))&&((p.p1.x==q.p1.x)&&(p.p1.y==q.p1.y)))&&((p.bY)==q.bY))&&((p.spread)==q.spread))&&((p.dD)==q.dD))&&(decide (p.stops=q.stops)))&&(p.img.eq q.img))&&(p.t.q.eq q.t.q)
def ak.valid(p:ak):Bool:=cond ((!(p.t.q.valid))||(!(p.without.eq (ak.bare p.kind)))) (false) (cond ((p.kind)==1) ((p.t.q.eq bG.none.q)) (cond ((p.kind)==2) (cond (((!(kL.valid ⟨p.p0.x,p.p0.y⟩))||(!(kL.valid ⟨p.p1.x,p.p1.y⟩)))||(!(iL p.stops&&iR p.spread))) (false) (((mZ p.t.q.Fp q0)) != 0)) (cond ((p.kind)==3) (cond ((((!(kL.valid ⟨p.p0.x,p.p0.y⟩))||(decide (p.bY<1)))||(decide (1048576<p.bY)))||(!(iL p.stops&&iR p.spread))) (false) (((mZ p.t.q.Fp q0)) != 0)) (cond ((p.kind)==4) (cond (((!(p.img.valid))||(((p.spread) != 0)&&(!(iR p.spread))))||(((p.dD) != 1)&&((p.dD) != 2))) (false) (((mZ p.t.q.Fp q0)) != 0)) (false)))))
open Go.RowKit
variable{α:Type}
abbrev xI{w:VO}{p q:ak}{K:Nat}(h:p.ok w)(h':q.ok w)(hf:p.t.fit K)(J:q.t.fit K)(aa:1<=K)(hK:K<=10000) :
  abB prog 139 #[p.v,q.v] w (VH w (.b (p.eq q))):=by
 skip;refine aCG func139 ntmps139 λS=>aCF S λu b2 E3 D S=>aCF S λu b5 E6 D S=>adr S 1 [] [] λS=>aC6 S 69 [.M 1 0,.M 0 0,.M 1 1,.M 0 1,.cmp .eql 40 (.tmp 12) (.tmp 14) (.agg #[.u (p.color.r.toNat:Int),.u (p.color.g.toNat:Int),.u (p.color.b.toNat:Int),.u (p.color.a.toNat:Int)]) (.agg #[.u (q.color.r.toNat:Int),.u (q.color.g.toNat:Int),.u (q.color.b.toNat:Int),.u (q.color.a.toNat:Int)]) (.b (((p.color.r.toNat:Int)==(q.color.r.toNat:Int))&&(((p.color.g.toNat:Int)==(q.color.g.toNat:Int))&&(((p.color.b.toNat:Int)==(q.color.b.toNat:Int))&&((p.color.a.toNat:Int)==(q.color.a.toNat:Int)))))),.M 1 5,.M 0 5,.cmp .eql 130 (.tmp 19) (.tmp 21) (.agg #[.i p.p0.x,.i p.p0.y]) (.agg #[.i q.p0.x,.i q.p0.y]) (.b ((p.p0.x==q.p0.x)&&(p.p0.y==q.p0.y))),.M 1 7,.M 0 7,.cmp .eql 130 (.tmp 26) (.tmp 28) (.agg #[.i p.p1.x,.i p.p1.y]) (.agg #[.i q.p1.x,.i q.p1.y]) (.b ((p.p1.x==q.p1.x)&&(p.p1.y==q.p1.y))),.M 1 9,.M 0 9,.M 1 11,.M 0 11,.M 1 15,.M 0 15,.M 1 10,.M 0 10,.M 1 12,.M 0 12,.M 1 16,.M 0 16] [(_,_,((((((((p.kind)==q.kind)&&(((p.color.r.toNat:Int)==(q.color.r.toNat:Int))&&(((p.color.g.toNat:Int)==(q.color.g.toNat:Int))&&(((p.color.b.toNat:Int)==(q.color.b.toNat:Int))&&((p.color.a.toNat:Int)==(q.color.a.toNat:Int))))))&&((p.p0.x==q.p0.x)&&(p.p0.y==q.p0.y)))&&((p.p1.x==q.p1.x)&&(p.p1.y==q.p1.y)))&&((p.bY)==q.bY))&&((p.spread)==q.spread))&&((p.dD)==q.dD)),.b (p.stops=q.stops)),(_,_,(((((((((p.kind)==q.kind)&&(((p.color.r.toNat:Int)==(q.color.r.toNat:Int))&&(((p.color.g.toNat:Int)==(q.color.g.toNat:Int))&&(((p.color.b.toNat:Int)==(q.color.b.toNat:Int))&&((p.color.a.toNat:Int)==(q.color.a.toNat:Int))))))&&((p.p0.x==q.p0.x)&&(p.p0.y==q.p0.y)))&&((p.p1.x==q.p1.x)&&(p.p1.y==q.p1.y)))&&((p.bY)==q.bY))&&((p.spread)==q.spread))&&((p.dD)==q.dD))&&(decide (p.stops=q.stops))),.b (p.img.eq q.img)),(_,_,((((((((((p.kind)==q.kind)&&(((p.color.r.toNat:Int)==(q.color.r.toNat:Int))&&(((p.color.g.toNat:Int)==(q.color.g.toNat:Int))&&(((p.color.b.toNat:Int)==(q.color.b.toNat:Int))&&((p.color.a.toNat:Int)==(q.color.a.toNat:Int))))))&&((p.p0.x==q.p0.x)&&(p.p0.y==q.p0.y)))&&((p.p1.x==q.p1.x)&&(p.p1.y==q.p1.y)))&&((p.bY)==q.bY))&&((p.spread)==q.spread))&&((p.dD)==q.dD))&&(decide (p.stops=q.stops)))&&(p.img.eq q.img)),.b (p.t.q.eq q.t.q))] [(4,.b (((((((((((p.kind)==q.kind)&&(((p.color.r.toNat:Int)==(q.color.r.toNat:Int))&&(((p.color.g.toNat:Int)==(q.color.g.toNat:Int))&&(((p.color.b.toNat:Int)==(q.color.b.toNat:Int))&&((p.color.a.toNat:Int)==(q.color.a.toNat:Int))))))&&((p.p0.x==q.p0.x)&&(p.p0.y==q.p0.y)))&&((p.p1.x==q.p1.x)&&(p.p1.y==q.p1.y)))&&((p.bY)==q.bY))&&((p.spread)==q.spread))&&((p.dD)==q.dD))&&(decide (p.stops=q.stops)))&&(p.img.eq q.img))&&(p.t.q.eq q.t.q)))] ⟨λu D g=>Zz (h.2.2.2.2.1.below (K00 S.E D)) (h'.2.2.2.2.1.below (K00 S.E D)),λu D g=>uX (m:=p.img) (n:=q.img) (h.2.2.2.2.2.2.2.1.below (K00 S.E D)) (h'.2.2.2.2.2.2.2.1.below (K00 S.E D)),λu D g=>Bf p.t.v q.t.v p.t.q q.t.q K _ ((bG.toQ h.2.2.2.2.2.2.2.2.2 hf).iU (K00 S.E D)) ((bG.toQ h'.2.2.2.2.2.2.2.2.2 J).iU (K00 S.E D)) aa hK,G⟩ (hk:=⟨aEg (λ_=>ae0 ..) X,aEg (λ_=>eqPt ..) X,aEg (λ_=>eqPt ..) X,G⟩) λu D S=>aCB S (.b (((((((((((p.kind)==q.kind)&&(((p.color.r.toNat:Int)==(q.color.r.toNat:Int))&&(((p.color.g.toNat:Int)==(q.color.g.toNat:Int))&&(((p.color.b.toNat:Int)==(q.color.b.toNat:Int))&&((p.color.a.toNat:Int)==(q.color.a.toNat:Int))))))&&((p.p0.x==q.p0.x)&&(p.p0.y==q.p0.y)))&&((p.p1.x==q.p1.x)&&(p.p1.y==q.p1.y)))&&((p.bY)==q.bY))&&((p.spread)==q.spread))&&((p.dD)==q.dD))&&(decide (p.stops=q.stops)))&&(p.img.eq q.img))&&(p.t.q.eq q.t.q))) (λS=>?_);exact⟨I,S.E⟩
abbrev yI{w:VO}{p:ak}(h:p.ok w) :
  abB prog 304 #[p.v] w (VH w (.b (iL p.stops&&iR p.spread))):=by
 skip;refine aCG func304 ntmps304 λS=>aCF S λu b2 J D S=>adr S 3 [] [.M 0 10] λS=>aCQ S (Nj (h.2.2.2.2.1.below S.E)) λu D S=>aC6 S 6 [.M 0 11] [(_,_,(iL p.stops),.b (iR p.spread))] [(2,.b ((iL p.stops)&&(iR p.spread)))] ⟨λu D g=>aC3 (Le p.spread _),G⟩ λu D S=>aCB S (.b ((iL p.stops)&&(iR p.spread))) (λS=>?_);exact⟨I,S.E⟩
open Go.RowKit
variable{α:Type}
abbrev Wq{w:VO}{p:ak}(h:p.ok w) :
  abB prog 303 #[p.v] w (VH w p.without.v):=by
 obtain⟨J,h2,h3,h4,h5,h6,h7,h8,h9,D⟩:=h;obtain⟨t0,t1,t2,J,t4,t5⟩:=D;have D:=Vp.ahp h5;have D:=Vp.ahp h8.2.2;have D:=Vp.mX t0.1;have D:=Vp.mX t0.2;have D:=Vp.mX t1.1;have D:=Vp.mX t1.2;have D:=Vp.mX t2.1;have D:=Vp.mX t2.2;have D:=Vp.mX J.1;have D:=Vp.mX J.2;have D:=Vp.mX t4.1;have D:=Vp.mX t4.2;have D:=Vp.mX t5.1;have D:=Vp.mX t5.2;refine aCG func303 ntmps303 λS=>aCF S λu b2 J D S=>aCF S λu b5 J D S=>adr S 1 [] [.M 1 0] λS=>aCF S λu b9 J D S=>aCH S 0 I λu D S=>aCH S 0 I λu D S=>adr S 4 [] [.M 2 0] λS=>aCD S ((p.kind)==1) (λD S=>?_) (λD S=>?_)
 .refine aCH S 0 I λu J S=>adr S 1 [] [.M 0 0] λS=>aCH S 1 I (λu J S=>?_);have S:=S.fl;have e:p.without=p.ae1:=by unfold ak.without; rw[D]; rfl
  refine aCU S 1 I (v := .agg (Sx.L [.i p.kind,.u 0,.u 0,.u 0,.u 0,.i p.p0.x,.i p.p0.y,.i p.p1.x,.i p.p1.y,.i p.bY,p.sv,.i p.spread]++p.img.cells++Sx.L [.i p.dD]++Sx.za).toArray) (λS=>?_);exact⟨by rw[e]; rfl,S.E⟩
 refine aCD S ((p.kind)==2) (λKZ S=>?_) (λKZ S=>?_)
 .refine aCH S 0 I λu J S=>aCH S 0 I λu J S=>aCN S 0 I λu J S=>aCN S 0 I (λu J S=>?_);have S:=S.fl;refine adr S 1 [] [.M 0 0] λS=>aCH S 1 I (λu J S=>?_);have e:p.without=p.only2:=by unfold ak.without; rw[D,KZ]; rfl
  refine aCU S 1 I (v := .agg (Sx.L [.i p.kind]++p.color.cells++Sx.L [.i 0,.i 0,.i 0,.i 0,.i p.bY,.sn,.i 0]++p.img.cells++Sx.L [.i p.dD]++Sx.za).toArray) (λS=>?_);exact⟨by rw[e]; rfl,S.E⟩
 refine aCD S ((p.kind)==3) (λJ S=>?_) (λJ S=>?_)
 .refine aCH S 0 I λu ab S=>aCN S 0 I λu PU S=>aCN S 0 I (λu ac S=>?_);have S:=S.fl;refine aCN S 0 I λu ae S=>adr S 1 [] [.M 0 0] λS=>aCH S 1 I (λu af S=>?_);have e:p.without=p.ae2:=by unfold ak.without; rw[D,KZ,J]; rfl
  refine aCU S 1 I (v := .agg (Sx.L [.i p.kind]++p.color.cells++Sx.L [.i 0,.i 0,.i p.p1.x,.i p.p1.y,.i 0,.sn,.i 0]++p.img.cells++Sx.L [.i p.dD]++Sx.za).toArray) (λS=>?_);exact⟨by rw[e]; rfl,S.E⟩
 refine aCD S ((p.kind)==4) (λaa S=>?_) (λaa S=>?_)
 .refine aCH S 0 I λu ag S=>aCN S 0 I (λu ah S=>?_);have S:=S.fl;refine aCN S 0 I λu ai S=>adr S 1 [] [.M 0 0] λS=>aCH S 1 I (λu al S=>?_);have e:p.without=p.ae3:=by unfold ak.without; rw[D,KZ,J,aa]; rfl
  refine aCU S 1 I (v := .agg (Sx.L [.i p.kind]++p.color.cells++Sx.L [.i p.p0.x,.i p.p0.y,.i p.p1.x,.i p.p1.y,.i p.bY,p.sv,.i 0,.i 0,.i 0,.sn,.i 0]++Sx.za).toArray) (λS=>?_);exact⟨by rw[e]; rfl,S.E⟩
 refine adr S 1 [] [.M 0 0] λS=>aCH S 1 I (λu WJ S=>?_);have e:p.without=p.ae4:=by unfold ak.without; rw[D,KZ,J,aa]; rfl
 refine aCU S 1 I (v := .agg (Sx.L [.i p.kind]++p.color.cells++Sx.L [.i p.p0.x,.i p.p0.y,.i p.p1.x,.i p.p1.y,.i p.bY,p.sv,.i p.spread]++p.img.cells++Sx.L [.i p.dD]++Sx.za).toArray) (λS=>?_);exact⟨by rw[e]; rfl,S.E⟩
open Go.RowKit
variable{α:Type}
abbrev Lh{w:VO}{p:ak}{K:Nat}(h:p.ok w)(hf:p.t.fit K)(aa:1<=K)(hK:K<=10000) :
  abB prog 275 #[p.v] w (VH w (.b p.valid)):=by
 skip;refine aCG func275 ntmps275 λS=>aCF S λu b2 J D S=>aCV S 13 [.M 0 16,.M 0 0,.M 0 0] [(_,_,true,.b (p.t.q.valid)),(_,_,(!(!(p.t.q.valid))),p.without.v),(_,_,(!(!(p.t.q.valid))),.b (p.without.eq (ak.bare p.kind)))] [(15,.b ((!(p.t.q.valid))||(!(p.without.eq (ak.bare p.kind)))))] ⟨λu hC g=>IC p.t.v p.t.q K _ ((bG.toQ h.2.2.2.2.2.2.2.2.2 hf).iU (K00 S.E hC)) aa Z,λu hC g=>Wq (h.below (K00 S.E hC)),λu hC g=>xI (p:=p.without) (q:=ak.bare p.kind) (K:=K) ((ak.ZF h).below (K00 S.E hC)) (ak.gV h.1 _) (ak.Wp p K) (bG.iM K) aa hK,G⟩ λu D S=>aCD S ((!(p.t.q.valid))||(!(p.without.eq (ak.bare p.kind)))) (λab S=>?_) (λab S=>?_)
 .refine aCB S (.z) (λS=>?_);exact⟨aJ (by unfold ak.valid; rw[ab]; rfl),S.E⟩
 refine adr S 4 [] [.M 0 0] λS=>aCD S ((p.kind)==1) (λD S=>?_) (λD S=>?_)
 .refine adr S 3 [] [.M 0 16] λS=>aCQ S (Bf p.t.v bG.none.v p.t.q bG.none.q K _ ((bG.toQ h.2.2.2.2.2.2.2.2.2 hf).iU S.E) ((bG.toQ (bG.gW _) (bG.iM K)).iU (aDC _ _)) aa hK) λu J S=>aCB S (.b (p.t.q.eq bG.none.q)) (λS=>?_);exact⟨aJ (by unfold ak.valid; rw[ab,D]; rfl),S.E⟩
 refine aCD S ((p.kind)==2) (λJ S=>?_) (λJ S=>?_)
 .refine adr S 2 [] [.M 0 5] λS=>aCQ S (l7 (p.p0.x) (p.p0.y) _) λu Ny S=>aC6 S 12 [.M 0 7,.M 0 0] [(_,_,(!(!(kL.valid ⟨p.p0.x,p.p0.y⟩))),.b (kL.valid ⟨p.p1.x,p.p1.y⟩)),(_,_,(!((!(kL.valid ⟨p.p0.x,p.p0.y⟩))||(!(kL.valid ⟨p.p1.x,p.p1.y⟩)))),.b (iL p.stops&&iR p.spread))] [(40,.b (((!(kL.valid ⟨p.p0.x,p.p0.y⟩))||(!(kL.valid ⟨p.p1.x,p.p1.y⟩)))||(!(iL p.stops&&iR p.spread))))] ⟨λu hC g=>l7 (p.p1.x) (p.p1.y) _,λu hC g=>yI (h.below (K00 S.E hC)),G⟩ λu zO S=>aCD S (((!(kL.valid ⟨p.p0.x,p.p0.y⟩))||(!(kL.valid ⟨p.p1.x,p.p1.y⟩)))||(!(iL p.stops&&iR p.spread))) (λae S=>?_) (λae S=>?_)
  .refine aCB S (.z) (λS=>?_);exact⟨aJ (by unfold ak.valid; rw[ab,D,J,ae]; rfl),S.E⟩
  refine adr S 2 [] [.M 0 16] λS=>aC1 S (ZT p.t.v p.t.q K _ ((bG.toQ h.2.2.2.2.2.2.2.2.2 hf).iU S.E) aa hK) λx u hd zS S=>aCQ S (mP _ _ p.t.q.Fp q0 (K+K+(K+K)+1) 1 _ (aC.toQ hd (G5 _) (G6 aa (K05 ((bG.toQ h.2.2.2.2.2.2.2.2.2 hf).iU (aDC _ _)) aa))) (uV _) Z Z Z Z) λu Gq S=>aCB S (.b (((mZ p.t.q.Fp q0)) != 0)) (λS=>?_);exact⟨aJ (by unfold ak.valid; rw[ab,D,J,ae]; rfl),S.E⟩
 refine aCD S ((p.kind)==3) (λac S=>?_) (λac S=>?_)
 .refine adr S 2 [] [.M 0 5] λS=>aCQ S (l7 (p.p0.x) (p.p0.y) _) λu zQ S=>aC6 S 16 [.M 0 9,.M 0 9,.M 0 0] [(_,_,(!(((!(kL.valid ⟨p.p0.x,p.p0.y⟩))||(decide (p.bY<1)))||(decide (1048576<p.bY)))),.b (iL p.stops&&iR p.spread))] [(61,.b ((((!(kL.valid ⟨p.p0.x,p.p0.y⟩))||(decide (p.bY<1)))||(decide (1048576<p.bY)))||(!(iL p.stops&&iR p.spread))))] ⟨λu hC g=>yI (h.below (K00 S.E hC)),G⟩ λu ag S=>aCD S ((((!(kL.valid ⟨p.p0.x,p.p0.y⟩))||(decide (p.bY<1)))||(decide (1048576<p.bY)))||(!(iL p.stops&&iR p.spread))) (λaf S=>?_) (λaf S=>?_)
  .refine aCB S (.z) (λS=>?_);exact⟨aJ (by unfold ak.valid; rw[ab,D,J,ac,af]; rfl),S.E⟩
  refine adr S 2 [] [.M 0 16] λS=>aC1 S (ZT p.t.v p.t.q K _ ((bG.toQ h.2.2.2.2.2.2.2.2.2 hf).iU S.E) aa hK) λx u hd WA S=>aCQ S (mP _ _ p.t.q.Fp q0 (K+K+(K+K)+1) 1 _ (aC.toQ hd (G5 _) (G6 aa (K05 ((bG.toQ h.2.2.2.2.2.2.2.2.2 hf).iU (aDC _ _)) aa))) (uV _) Z Z Z Z) λu LK S=>aCB S (.b (((mZ p.t.q.Fp q0)) != 0)) (λS=>?_);exact⟨aJ (by unfold ak.valid; rw[ab,D,J,ac,af]; rfl),S.E⟩
 refine aCD S ((p.kind)==4) (λGK S=>?_) (λGK S=>?_)
 .refine adr S 2 [] [.M 0 12] λS=>aCQ S (CS (m:=p.img) (h.2.2.2.2.2.2.2.1.below S.E)) λu TL S=>aC6 S 22 [.M 0 11,.M 0 11,.M 0 15,.M 0 15] [(_,_,((!(!(p.img.valid)))&&((p.spread) != 0)),.b (iR p.spread))] [(88,.b (((!(p.img.valid))||(((p.spread) != 0)&&(!(iR p.spread))))||(((p.dD) != 1)&&((p.dD) != 2))))] ⟨λu hC g=>aC3 (Le p.spread _),G⟩ λu ah S=>aCD S (((!(p.img.valid))||(((p.spread) != 0)&&(!(iR p.spread))))||(((p.dD) != 1)&&((p.dD) != 2))) (λLP S=>?_) (λLP S=>?_)
  .refine aCB S (.z) (λS=>?_);exact⟨aJ (by unfold ak.valid; rw[ab,D,J,ac,GK,LP]; rfl),S.E⟩
  refine adr S 2 [] [.M 0 16] λS=>aC1 S (ZT p.t.v p.t.q K _ ((bG.toQ h.2.2.2.2.2.2.2.2.2 hf).iU S.E) aa hK) λx u hd ai S=>aCQ S (mP _ _ p.t.q.Fp q0 (K+K+(K+K)+1) 1 _ (aC.toQ hd (G5 _) (G6 aa (K05 ((bG.toQ h.2.2.2.2.2.2.2.2.2 hf).iU (aDC _ _)) aa))) (uV _) Z Z Z Z) λu al S=>aCB S (.b (((mZ p.t.q.Fp q0)) != 0)) (λS=>?_);exact⟨aJ (by unfold ak.valid; rw[ab,D,J,ac,GK,LP]; rfl),S.E⟩
 refine aCB S (.z) (λS=>?_);exact⟨aJ (by unfold ak.valid; rw[ab,D,J,ac,GK]; rfl),S.E⟩
abbrev ahR{w:VO}{p:ak}{K:Nat}(h:p.ok w)(hf:p.t.fit K)(D:1<=K)(hK:K<=10000) :
  abB prog 274 #[p.v] w (VH w (.b (!p.valid))):=by
 skip;refine aCG func274 ntmps274 λS=>aCF S λu b2 E3 J S=>adr S 2 [] [.M 0 0] λS=>aCQ S (Lh (h.below S.E) hf D hK) λu J S=>aCB S (.b (!p.valid)) (λS=>?_);exact⟨I,S.E⟩
open Go.RowKit
variable{α:Type}{K:Nat}
def pR(K:Nat)(w:VO)(v:aaT)(l:List ak):Prop:=jl w v l∧(∀p∈l,p.t.fit K)∧1<=K∧K<=10000
abbrev pR.below{w w':VO}{v:aaT}{l:List ak}(h:pR K w v l)(D:Ext w w'):pR K w' v l:=⟨h.1.below D,h.2⟩
variable{o:Oper}{v:aaT}{l:List ak}{Q:Exit->Act->VO->Prop}{ops:Array Oper}{os os':List Oper}{N t0 t1:Nat}
abbrev aa7:∃D,prog.info? 210=some D∧D.size=1∧D.zero=some .nilIface:=by
 have D:(prog.info? 210).map (λi=>(i.size,i.zero))=some (1,some .nilIface):=by kernel_rfl
 cases h:prog.info? 210 with
 | none=>rw[h]at D; cases D
 | some i=>rw[h]at D; simp at D; exact⟨i,I,D.1,D.2⟩
abbrev fQ(b:Bool)(n:Int):(dO b n).cells = #[dO b n]:=by unfold dO; split<;>rfl
abbrev O7{P:Program}{ρ:Operand->aaT}{w w1:VO}{t:TypeId}{n:Nat}{parts:Array (Nat×Operand)}{vs:Array (Nat×aaT)}{V:aaT}(D:o.op = .buildSlice t n parts)(J:(parts.map λ(i,x)=>(i,ρ x))=vs)(h:(Instr.buildSlice t n vs).run P w = .ok V w1) :
  (execOp ρ o).run P w = .ok (.value V) w1:=by
 unfold execOp;simp only[D,J,aEe,h];rfl
abbrev adS(v0 v1 v2 D J S:aaT)(w:VO)(h0:v0.cells = #[v0])(h1:v1.cells = #[v1])(h2:v2.cells = #[v2])(h3:D.cells = #[D])(h4:J.cells = #[J])(h5:S.cells = #[S]) :
  (Instr.buildSlice 292 6 #[(0,v0),(1,v1),(2,v2),(3,D),(4,J),(5,S)]).run prog w = .ok (.s (some ⟨w.heap.size,0,none⟩) 6 6) (w.alloc (.cells #[v0,v1,v2,D,J,S] 210)):=by
 obtain⟨J,S,D,hz⟩:=aa7;refine run_buildSlice w _ 210 6 _ _ J .nilIface underlying292 S hz (by rw[D]; decide) (by rw[D]; decide) ?_;rw[D];have D:((Array.range (6*1)).map (Value.nilIface.cells[· % Value.nilIface.cells.size]!)) = #[.nilIface,.nilIface,.nilIface,.nilIface,.nilIface,.nilIface]:=by kernel_rfl
 rw[D];simp[Instr.fill,h0,h1,h2,h3,h4,h5]
abbrev S9{w0:VO}{a:Act}{w:VO}{l:List (Nat×aaT)}{bl:List (Nat×List aaT)}{vs:List Sx.fE}(S:Sx.St w0 a w N l bl vs)(d:Nat)(v0 v1 v2 D J v5:aaT){t2 t3 t4 t5:Nat} 
  (aa:os=o::os') (hg:o.guard=none) (hd:o.dst=some d) (ab:o.op = .buildSlice 292 6 #[(0,.tmp t0),(1,.tmp t1),(2,.tmp t2),(3,.tmp t3),(4,.tmp t4),(5,.tmp t5)]) (c0:v0.cells = #[v0]) (c1:v1.cells = #[v1]) (c2:v2.cells = #[v2]) (c3:D.cells = #[D]) (c4:J.cells = #[J]) (c5:v5.cells = #[v5])
  (next:∀a' w' b,Ext w w'->b=w.heap.size->Sx.St w0 a' w' N ((d,.s (some ⟨b,0,none⟩) 6 6)::l) ((b,[v0,v1,v2,D,J,v5])::bl) vs->aiw prog ops Q (os.drop 1) a' w')
  (l0:l.lookup t0=some v0:=by kernel_rfl) (l1:l.lookup t1=some v1:=by kernel_rfl) (l2:l.lookup t2=some v2:=by kernel_rfl) (l3:l.lookup t3=some D:=by kernel_rfl) (l4:l.lookup t4=some J:=by kernel_rfl) (l5:l.lookup t5=some v5:=by kernel_rfl) (ac:Sx.uO N (some d)=true:=by rfl):aiw prog ops Q os a w:=
 Sx.ahS S d [v0,v1,v2,D,J,v5] 210 (λb => .s (some ⟨b,0,none⟩) 6 6) aa hg hd (O7 ab (by simp[S.s.has _ _ l0,S.s.has _ _ l1,S.s.has _ _ l2,S.s.has _ _ l3,S.s.has _ _ l4,S.s.has _ _ l5]) (adS v0 v1 v2 D J v5 w c0 c1 c2 c3 c4 c5)) next ac
abbrev adT(v0 v1:aaT)(w:VO)(h0:v0.cells = #[v0])(h1:v1.cells = #[v1]) :
  (Instr.buildSlice 292 2 #[(0,v0),(1,v1)]).run prog w = .ok (.s (some ⟨w.heap.size,0,none⟩) 2 2) (w.alloc (.cells #[v0,v1] 210)):=by
 obtain⟨J,S,D,hz⟩:=aa7;refine run_buildSlice w _ 210 2 _ _ J .nilIface underlying292 S hz (by rw[D]; decide) (by rw[D]; decide) ?_;rw[D];have D:((Array.range (2*1)).map (Value.nilIface.cells[· % Value.nilIface.cells.size]!)) = #[.nilIface,.nilIface]:=by kernel_rfl
 rw[D];simp[Instr.fill,h0,h1]
abbrev aev{w0:VO}{a:Act}{w:VO}{l:List (Nat×aaT)}{bl:List (Nat×List aaT)}{vs:List Sx.fE}(S:Sx.St w0 a w N l bl vs)(d:Nat)(v0 v1:aaT) 
  (D:os=o::os') (hg:o.guard=none) (hd:o.dst=some d) (J:o.op = .buildSlice 292 2 #[(0,.tmp t0),(1,.tmp t1)]) (c0:v0.cells = #[v0]) (c1:v1.cells = #[v1])
  (next:∀a' w' b,Ext w w'->b=w.heap.size->Sx.St w0 a' w' N ((d,.s (some ⟨b,0,none⟩) 2 2)::l) ((b,[v0,v1])::bl) vs->aiw prog ops Q (os.drop 1) a' w')
  (l0:l.lookup t0=some v0:=by kernel_rfl) (l1:l.lookup t1=some v1:=by kernel_rfl) (aa:Sx.uO N (some d)=true:=by rfl):aiw prog ops Q os a w:=
 Sx.ahS S d [v0,v1] 210 (λb => .s (some ⟨b,0,none⟩) 2 2) D hg hd (O7 J (by simp[S.s.has _ _ l0,S.s.has _ _ l1]) (adT v0 v1 w c0 c1)) next aa
abbrev Lj{w:VO}(h:pR K w v l) :
  abB prog 302 #[v,.func (.func 274) #[] #[]] w λe w'=>∃z,e = .R (.i z)∧decide (0<=z) = !(l.all ak.valid)∧Ext w w':=by
 obtain⟨a,cap,rfl⟩:=h.1.1.shape;have D:l.length<=9223372036854775807:=h.1.1.len;refine aCG func302 ntmps302 λS=>aCZ S (ι:=Nat) (λp D w'=>p<=l.length∧((l.take p).all ak.valid=true)∧Sx.St w D w' 19 [(0,.s a l.length cap),(1,.func (.func 274) #[] #[]),(4,.i 0),(7,.i l.length),(8,.i p)] [] []) (λp=>l.length-p) (0) (λS=>⟨aDl _,I,S.qc⟩) ?_;rintro k J u gJ dW D;try dsimp only at D
 obtain⟨hk,hR,S⟩:=D;refine aC0 S λS=>aCD S (decide ((k:Int)<(l.length:Int))) (λJ S=>?_) (λJ S=>?_)
 .have uy:k<l.length:=by have:=aDw J; omega
  obtain⟨b10,D,rfl,aa,BI,wP,QA⟩:=aDN h.1.1 (λ_=>I) (k) uy;have S:=S.view0 wP QA;refine adr S 7 [] [.idx k l.length,.M 0 0] (hk:=⟨uy,G⟩) λS=>aCQ S (ahR ((h.1.2 _ (BI▸aDI uy)).below S.E) (h.2.1 _ (BI▸aDI uy)) h.2.2.1 h.2.2.2) λu D S=>aCD S (!aa.valid) (λD S=>?_) (λD S=>?_)
  .refine aCB S (.i k) (λS=>?_);exact⟨_,I,by rw[zo uy (by rw[BI]; simpa using D)]; simp,S.E⟩
  refine adr S 2 [] [.re 18 (.i (IntKind.i64.wrap ((k:Int)+1))) (.i (k+1:Nat))] (hk:=⟨aCS Z,G⟩) λS=>aCY S gJ (λS=>?_);exact dW _ _ (k+1) ⟨Z,(mV uy hR (by rw[BI]; simpa using D)),S.qc⟩ (by show _-_<_-_; omega)
 refine aCB S (.i (-1)) (λS=>?_);exact⟨_,I,by rw[yC (by have:=aDA J; omega) hR]; rfl,S.E⟩
abbrev Nk{w:VO}(h:pR K w v l) :
  abB prog 273 #[v,.func (.func 274) #[] #[]] w (VH w (.b (!(l.all ak.valid)))):=by
 skip;refine aCG func273 ntmps273 λS=>aCR S (Lj (h.below S.E)) ?_;rintro e u ⟨z,rfl,D,J⟩;refine⟨_,I,J,λS=>?_⟩;refine aCB S (.b (0<=z)) (λS=>?_);exact⟨aJ D,S.E⟩
abbrev ZU{w:VO}(h:pR K w v l) :
  abB prog 233 #[v] w (VH w (.b (l.all ak.valid))):=by
 skip;refine aCG func233 ntmps233 λS=>aCQ S (Nk (h.below S.E)) λu D S=>aCB S (.b (!(!(l.all ak.valid)))) (λS=>?_);exact⟨aJ Y,S.E⟩
