/- slices.Equal of the rows that -/
import Derived.Test.YtodpgjjgaddkeaaGreatDoorPk7
set_option maxRecDepth 100000
set_option maxHeartbeats 9999999
open Go renaming World->E5,Value->y9,Calls->Nq
set_option linter.unusedVariables false
set_option linter.unusedSimpArgs false
open Go.RowKit Go.Sx
namespace Go.Proofs.Õ
open _root_.Go.Proofs.Tryz
section
variable{α:Type}
variable{l m:List α}{w:E5}{v u:y9}{k:Nat}
abbrev aJ{a b:Bool}(h:a=b):Ending.returned (.b a) = .R (.b b):=by rw[h]
abbrev nR [DecidableEq α](h:((l.length:Int) != (m.length:Int))=true):false=decide (l=m):=by
 have D:l≠m:=λe=>by subst e; simp at h
 simp[D]
abbrev mJ(h:((l.length:Int) != (m.length:Int))=false):l.length=m.length:=by simp at h; omega
abbrev sG [DecidableEq α](hk:l.length<=k)(h:l.length=m.length)(D:l.take k=m.take k):true=decide (l=m):=by
 rw[Ď hk,Ď Z]at D; simp[D]
abbrev sF [DecidableEq α](D:k<l.length)(J:k<m.length)(h:l[k]≠m[k]):false=decide (l=m):=by
 have D:l≠m:=λe=>by subst e; exact h I
 simp[D]
abbrev nS(D:k<l.length)(J:k<m.length)(S:l.take k=m.take k)(h:l[k]=m[k]):l.take (k+1)=m.take (k+1):=by
 rw[ĸ D,ĸ J,S,h]
abbrev aeS{x y:dL}(h:(!((x.verb==y.verb)&&((x.a.x==y.a.x)&&((x.a.y==y.a.y)&&((x.b.x==y.b.x)&&((x.b.y==y.b.y)&&((x.c.x==y.c.x)&&(x.c.y==y.c.y))))))))=false):x=y:=by
 obtain⟨v,⟨a,b⟩,⟨c,d⟩,⟨e,f⟩⟩:=x;obtain⟨D,⟨J,b'⟩,⟨S,d'⟩,⟨e',f'⟩⟩:=y;simp at h |-; omega
abbrev I4{a b:UInt8}(h:(a.toNat:Int)=(b.toNat:Int)):a=b:=ϋ.1 Z
abbrev XC{x y:bI}(h:(!(((x.r.toNat:Int)==y.r.toNat)&&(((x.g.toNat:Int)==y.g.toNat)&&(((x.b.toNat:Int)==y.b.toNat)&&((x.a.toNat:Int)==y.a.toNat)))))=false):x=y:=by
 obtain⟨a,b,c,d⟩:=x;obtain⟨D,b',J,S⟩:=y;simp only[Ň,Û,ß]at h;rw[I4 h.1,I4 h.2.1,I4 h.D,I4 h.N]
abbrev aaj{x y:dI}(h:(!((x.o==y.o)&&(((x.c.r.toNat:Int)==y.c.r.toNat)&&(((x.c.g.toNat:Int)==y.c.g.toNat)&&(((x.c.b.toNat:Int)==y.c.b.toNat)&&((x.c.a.toNat:Int)==y.c.a.toNat))))))=false):x=y:=by
 obtain⟨o,c⟩:=x;obtain⟨J,D⟩:=y;simp only[Ň,Û,ß]at h;have:c=D:=XC (by simp only[Ň,Û,ß]; exact h.2);rw[h.1,this]
abbrev aeX{x y:Int}(h:(x != y)=false):x=y:=by simpa using h
abbrev abK{l m:List dL}(h:aG 7 dL.cells w v l)(h':aG 7 dL.cells w u m) :
  Nq prog 182 #[v,u] w (Ï w (.b (l=m))):=by
 obtain⟨a,cap,rfl⟩:=h.shape;obtain⟨d,cap',rfl⟩:=h'.shape;have D:l.length<=9223372036854775807:=h.len;refine Ä func182 ntmps182 λS=>À S (((l.length:Int)) != (m.length:Int)) (λab S=>?_) λab S=>?_
 .refine Xe S (.z) λS=>?_;exact⟨aJ (nR ab),S.E⟩
 refine ĉ S (ι:=Nat) (λp D w'=>p<=l.length∧(l.take p=m.take p)∧Sx.St w D w' 26 [(0,.s a l.length cap),(1,.s d m.length cap'),(4,.z),(12,.i l.length),(13,.i p)] [] []) (λp=>l.length-p) (0) (λS=>⟨Î _,I,S.qC⟩) ?_;rintro k J u fQ eu D;try dsimp only at D
 obtain⟨hk,hR,S⟩:=D;refine Ċ S λS=>À S (decide ((k:Int)<(l.length:Int))) (λfD S=>?_) λfD S=>?_
 .have wJ:k<l.length:=by have:=Ý fD; omega
  obtain⟨J,af,rfl,D,LD,VT,Rx⟩:=ý h (λ_=>I) (k) wJ;have S:=S.view0 VT Rx;have wK:k<m.length:=by have:=mJ ab; have:=Ý fD; omega
  obtain⟨ag,ah,rfl,J,ae,V6,ZL⟩:=ý h' (λ_=>I) (k) wK;have S:=S.view0 V6 ZL;refine ć S 9 [.idx k l.length,.M 1 0,.idx k m.length,.M 0 0,.cmp .neq 163 (.tmp 19) (.tmp 23) (.agg #[.i D.verb,.i D.a.x,.i D.a.y,.i D.b.x,.i D.b.y,.i D.c.x,.i D.c.y]) (.agg #[.i J.verb,.i J.a.x,.i J.a.y,.i J.b.x,.i J.b.y,.i J.c.x,.i J.c.y]) (.b (!((D.verb==J.verb)&&((D.a.x==J.a.x)&&((D.a.y==J.a.y)&&((D.b.x==J.b.x)&&((D.b.y==J.b.y)&&((D.c.x==J.c.x)&&(D.c.y==J.c.y)))))))))] [] [(24,.b (!((D.verb==J.verb)&&((D.a.x==J.a.x)&&((D.a.y==J.a.y)&&((D.b.x==J.b.x)&&((D.b.y==J.b.y)&&((D.c.x==J.c.x)&&(D.c.y==J.c.y)))))))))] trivial (hk:=⟨wJ,wK,ı (λ_=>akU ..) X,G⟩) λu wR S=>À S (!((D.verb==J.verb)&&((D.a.x==J.a.x)&&((D.a.y==J.a.y)&&((D.b.x==J.b.x)&&((D.b.y==J.b.y)&&((D.c.x==J.c.x)&&(D.c.y==J.c.y)))))))) (λaa S=>?_) λaa S=>?_
  .refine Xe S (.z) λS=>?_;exact⟨aJ (sF wJ wK (λe=>by have D:=aa; rw[LD,ae]at e; subst e; simp at D)),S.E⟩
  refine O1 S 2 [] [kS 25 k] (hk:=⟨ù Z,G⟩) λS=>ċ S fQ λS=>?_;exact eu _ _ (k+1) ⟨Z,(nS wJ wK hR (by rw[LD,ae]; exact aeS aa)),S.qC⟩ (by show _-_<_-_; omega)
 refine Xe S (.b true) λS=>?_;exact⟨aJ (sG (by have:=é fD; omega) (mJ ab) hR),S.E⟩
abbrev ZM{l m:List dI}(h:aG 5 dI.cells w v l)(h':aG 5 dI.cells w u m) :
  Nq prog 183 #[v,u] w (Ï w (.b (l=m))):=by
 obtain⟨a,cap,rfl⟩:=h.shape;obtain⟨d,cap',rfl⟩:=h'.shape;have D:l.length<=9223372036854775807:=h.len;refine Ä func183 ntmps183 λS=>À S (((l.length:Int)) != (m.length:Int)) (λab S=>?_) λab S=>?_
 .refine Xe S (.z) λS=>?_;exact⟨aJ (nR ab),S.E⟩
 refine ĉ S (ι:=Nat) (λp D w'=>p<=l.length∧(l.take p=m.take p)∧Sx.St w D w' 26 [(0,.s a l.length cap),(1,.s d m.length cap'),(4,.z),(12,.i l.length),(13,.i p)] [] []) (λp=>l.length-p) (0) (λS=>⟨Î _,I,S.qC⟩) ?_;rintro k J u fQ eu D;try dsimp only at D
 obtain⟨hk,hR,S⟩:=D;refine Ċ S λS=>À S (decide ((k:Int)<(l.length:Int))) (λfD S=>?_) λfD S=>?_
 .have wJ:k<l.length:=by have:=Ý fD; omega
  obtain⟨J,af,rfl,D,LD,VT,Rx⟩:=ý h (λ_=>I) (k) wJ;have S:=S.view0 VT Rx;have wK:k<m.length:=by have:=mJ ab; have:=Ý fD; omega
  obtain⟨ag,ah,rfl,J,ae,V6,ZL⟩:=ý h' (λ_=>I) (k) wK;have S:=S.view0 V6 ZL;refine ć S 9 [.idx k l.length,.M 1 0,.idx k m.length,.M 0 0,.cmp .neq 202 (.tmp 19) (.tmp 23) (.agg #[.i D.o,.u (D.c.r.toNat:Int),.u (D.c.g.toNat:Int),.u (D.c.b.toNat:Int),.u (D.c.a.toNat:Int)]) (.agg #[.i J.o,.u (J.c.r.toNat:Int),.u (J.c.g.toNat:Int),.u (J.c.b.toNat:Int),.u (J.c.a.toNat:Int)]) (.b (!((D.o==J.o)&&(((D.c.r.toNat:Int)==(J.c.r.toNat:Int))&&(((D.c.g.toNat:Int)==(J.c.g.toNat:Int))&&(((D.c.b.toNat:Int)==(J.c.b.toNat:Int))&&((D.c.a.toNat:Int)==(J.c.a.toNat:Int))))))))] [] [(24,.b (!((D.o==J.o)&&(((D.c.r.toNat:Int)==(J.c.r.toNat:Int))&&(((D.c.g.toNat:Int)==(J.c.g.toNat:Int))&&(((D.c.b.toNat:Int)==(J.c.b.toNat:Int))&&((D.c.a.toNat:Int)==(J.c.a.toNat:Int))))))))] trivial (hk:=⟨wJ,wK,ı (λ_=>aeT ..) X,G⟩) λu wR S=>À S (!((D.o==J.o)&&(((D.c.r.toNat:Int)==(J.c.r.toNat:Int))&&(((D.c.g.toNat:Int)==(J.c.g.toNat:Int))&&(((D.c.b.toNat:Int)==(J.c.b.toNat:Int))&&((D.c.a.toNat:Int)==(J.c.a.toNat:Int))))))) (λaa S=>?_) λaa S=>?_
  .refine Xe S (.z) λS=>?_;exact⟨aJ (sF wJ wK (λe=>by have D:=aa; rw[LD,ae]at e; subst e; simp at D)),S.E⟩
  refine O1 S 2 [] [kS 25 k] (hk:=⟨ù Z,G⟩) λS=>ċ S fQ λS=>?_;exact eu _ _ (k+1) ⟨Z,(nS wJ wK hR (by rw[LD,ae]; exact aaj aa)),S.qC⟩ (by show _-_<_-_; omega)
 refine Xe S (.b true) λS=>?_;exact⟨aJ (sG (by have:=é fD; omega) (mJ ab) hR),S.E⟩
abbrev adQ{l m:List bI}(h:aG 4 bI.cells w v l)(h':aG 4 bI.cells w u m) :
  Nq prog 185 #[v,u] w (Ï w (.b (l=m))):=by
 obtain⟨a,cap,rfl⟩:=h.shape;obtain⟨d,cap',rfl⟩:=h'.shape;have D:l.length<=9223372036854775807:=h.len;refine Ä func185 ntmps185 λS=>À S (((l.length:Int)) != (m.length:Int)) (λab S=>?_) λab S=>?_
 .refine Xe S (.z) λS=>?_;exact⟨aJ (nR ab),S.E⟩
 refine ĉ S (ι:=Nat) (λp D w'=>p<=l.length∧(l.take p=m.take p)∧Sx.St w D w' 26 [(0,.s a l.length cap),(1,.s d m.length cap'),(4,.z),(12,.i l.length),(13,.i p)] [] []) (λp=>l.length-p) (0) (λS=>⟨Î _,I,S.qC⟩) ?_;rintro k J u fQ eu D;try dsimp only at D
 obtain⟨hk,hR,S⟩:=D;refine Ċ S λS=>À S (decide ((k:Int)<(l.length:Int))) (λfD S=>?_) λfD S=>?_
 .have wJ:k<l.length:=by have:=Ý fD; omega
  obtain⟨J,af,rfl,D,LD,VT,Rx⟩:=ý h (λ_=>I) (k) wJ;have S:=S.view0 VT Rx;have wK:k<m.length:=by have:=mJ ab; have:=Ý fD; omega
  obtain⟨ag,ah,rfl,J,ae,V6,ZL⟩:=ý h' (λ_=>I) (k) wK;have S:=S.view0 V6 ZL;refine ć S 9 [.idx k l.length,.M 1 0,.idx k m.length,.M 0 0,.cmp .neq 178 (.tmp 19) (.tmp 23) (.agg #[.u (D.r.toNat:Int),.u (D.g.toNat:Int),.u (D.b.toNat:Int),.u (D.a.toNat:Int)]) (.agg #[.u (J.r.toNat:Int),.u (J.g.toNat:Int),.u (J.b.toNat:Int),.u (J.a.toNat:Int)]) (.b (!(((D.r.toNat:Int)==(J.r.toNat:Int))&&(((D.g.toNat:Int)==(J.g.toNat:Int))&&(((D.b.toNat:Int)==(J.b.toNat:Int))&&((D.a.toNat:Int)==(J.a.toNat:Int)))))))] [] [(24,.b (!(((D.r.toNat:Int)==(J.r.toNat:Int))&&(((D.g.toNat:Int)==(J.g.toNat:Int))&&(((D.b.toNat:Int)==(J.b.toNat:Int))&&((D.a.toNat:Int)==(J.a.toNat:Int)))))))] trivial (hk:=⟨wJ,wK,ı (λ_=>akV ..) X,G⟩) λu wR S=>À S (!(((D.r.toNat:Int)==(J.r.toNat:Int))&&(((D.g.toNat:Int)==(J.g.toNat:Int))&&(((D.b.toNat:Int)==(J.b.toNat:Int))&&((D.a.toNat:Int)==(J.a.toNat:Int)))))) (λaa S=>?_) λaa S=>?_
  .refine Xe S (.z) λS=>?_;exact⟨aJ (sF wJ wK (λe=>by have D:=aa; rw[LD,ae]at e; subst e; simp at D)),S.E⟩
  refine O1 S 2 [] [kS 25 k] (hk:=⟨ù Z,G⟩) λS=>ċ S fQ λS=>?_;exact eu _ _ (k+1) ⟨Z,(nS wJ wK hR (by rw[LD,ae]; exact XC aa)),S.qC⟩ (by show _-_<_-_; omega)
 refine Xe S (.b true) λS=>?_;exact⟨aJ (sG (by have:=é fD; omega) (mJ ab) hR),S.E⟩
abbrev adR{l m:List Int}(h:aG 1 (λx=>[Ac x]) w v l)(h':aG 1 (λx=>[Ac x]) w u m) :
  Nq prog 184 #[v,u] w (Ï w (.b (l=m))):=by
 obtain⟨a,cap,rfl⟩:=h.shape;obtain⟨d,cap',rfl⟩:=h'.shape;have D:l.length<=9223372036854775807:=h.len;refine Ä func184 ntmps184 λS=>À S (((l.length:Int)) != (m.length:Int)) (λJ S=>?_) λJ S=>?_
 .refine Xe S (.z) λS=>?_;exact⟨aJ (nR J),S.E⟩
 refine ĉ S (ι:=Nat) (λp D w'=>p<=l.length∧(l.take p=m.take p)∧Sx.St w D w' 26 [(0,.s a l.length cap),(1,.s d m.length cap'),(4,.z),(12,.i l.length),(13,.i p)] [] []) (λp=>l.length-p) (0) (λS=>⟨Î _,I,S.qC⟩) ?_;rintro k ac u fQ eu D;try dsimp only at D
 obtain⟨hk,hR,S⟩:=D;refine Ċ S λS=>À S (decide ((k:Int)<(l.length:Int))) (λfD S=>?_) λfD S=>?_
 .have wJ:k<l.length:=by have:=Ý fD; omega
  obtain⟨D,af,rfl,ab,LD,VT,Rx⟩:=ý h (λ_=>I) (k) wJ;have S:=S.view0 VT Rx;have wK:k<m.length:=by have:=mJ J; have:=Ý fD; omega
  obtain⟨D,ag,rfl,ae,aa,V6,ZL⟩:=ý h' (λ_=>I) (k) wK;have S:=S.view0 V6 ZL;refine ć S 9 [.idx k l.length,.M 1 0,.idx k m.length,.M 0 0] [] [(24,.b ((ab) != ae))] trivial (hk:=⟨wJ,wK,G⟩) λu D S=>À S ((ab) != ae) (λD S=>?_) λD S=>?_
  .refine Xe S (.z) λS=>?_;exact⟨aJ (sF wJ wK (λe=>by have hq:=D; rw[LD,aa]at e; subst e; simp at hq)),S.E⟩
  refine O1 S 2 [] [kS 25 k] (hk:=⟨ù Z,G⟩) λS=>ċ S fQ λS=>?_;exact eu _ _ (k+1) ⟨Z,(nS wJ wK hR (by rw[LD,aa]; exact aeX D)),S.qC⟩ (by show _-_<_-_; omega)
 refine Xe S (.b true) λS=>?_;exact⟨aJ (sG (by have:=é fD; omega) (mJ J) hR),S.E⟩
variable{α:Type}
variable{w:E5}{k b:Nat}{m n:dH}{l:List dI}{p:α->Bool}{last:Int}{v:y9}
abbrev adS(p:bI):(((min (p.r.toNat:Int) (p.a.toNat:Int))==(p.r.toNat:Int))&&(((min (p.g.toNat:Int) (p.a.toNat:Int))==(p.g.toNat:Int))&&(((min (p.b.toNat:Int) (p.a.toNat:Int))==(p.b.toNat:Int))&&((min (p.a.toNat:Int) (p.a.toNat:Int))==(p.a.toNat:Int)))))=p.valid:=by
 have h:∀x y:UInt8,((min (x.toNat:Int) (y.toNat:Int))==(x.toNat:Int))=decide (x<=y):=by
  intro x y; rw[ŉ]; simp only[ß,Þ,UInt8.le_iff_toNat_le]; omega
 rw[h,h,h,h]; unfold bI.valid; simp
abbrev yI{l:List α}(hk:l.length<=k)(h:(l.take k).all p=true):l.all p=true:=by rwa [Ď hk]at h
abbrev zu{l:List α}(hk:k<l.length)(h:p l[k]=false):l.all p=false:=by
 rw[List.all_eq_false]; exact⟨l[k],ò hk,by simp[h]⟩
abbrev mQ{l:List α}(hk:k<l.length)(D:(l.take k).all p=true)(h:p l[k]=true):(l.take (k+1)).all p=true:=by
 rw[ĸ hk,List.all_append,D]; simp[h]
abbrev adT{a b:Int}(D:side a=true)(J:side b=true):IntKind.i64.wrap (a*b)=a*b:=by
 simp only[side,Û,Þ]at D J;have S:a*b<=4096*4096:=Int.le_trans (Int.mul_le_mul_of_nonneg_right D.2 Z) (Int.mul_le_mul_of_nonneg_left J.2 Z);have D:0<=a*b:=Int.mul_nonneg Z Z;rw[Ŭ]; omega
abbrev WE:((((!(side m.w))||(!(side m.h)))||(decide (65536<IntKind.i64.wrap (m.w*m.h))))||((m.l.length:Int) != IntKind.i64.wrap (m.w*m.h)))=((((!(side m.w))||(!(side m.h)))||(decide (65536<(m.w*m.h))))||((m.l.length:Int) != (m.w*m.h))):=by
 cases ha:side m.w<;>cases hb:side m.h<;>simp only[Bool.not_false,Bool.not_true,Bool.true_or,Bool.false_or,Bool.or_true];rw[adT ha hb]
abbrev apg(h:((((!(side m.w))||(!(side m.h)))||(decide (65536<(m.w*m.h))))||((m.l.length:Int) != (m.w*m.h)))=true):false=m.valid:=by
 unfold dH.valid dH.size;revert h;cases side m.w<;>cases side m.h<;>simp;intro h D J; omega
abbrev akE(h:((((!(side m.w))||(!(side m.h)))||(decide (65536<(m.w*m.h))))||((m.l.length:Int) != (m.w*m.h)))=false):(!(!(m.l.all bI.valid)))=m.valid:=by
 unfold dH.valid dH.size;revert h;cases side m.w<;>cases side m.h<;>simp;intro h D; rw[D]; simp[h]
abbrev aph:((m.w==n.w)&&(m.h==n.h)&&decide (m.l=n.l))=m.eq n:=by
 unfold dH.eq;rw[Bool.and_assoc];by_cases h:m.l=n.l<;>simp[h]
abbrev adU(h:((decide ((l.length:Int)<1))||(decide (16<(l.length:Int))))=true):false=iK l:=by
 unfold iK;simp only[ų,Þ]at h;rcases h with h | h
 .rw[Ŝ Z]; rfl
 rw[Ŝ (p:=l.length<=16) Z]; simp
abbrev WG(h:((decide ((l.length:Int)<1))||(decide (16<(l.length:Int))))=false):iK l=iH 0 l:=by
 unfold iK;simp only[Ĕ,Ą]at h;rw[ņ (p:=1<=l.length) Z,ņ (p:=l.length<=16) Z]; rfl
abbrev adV(h:((decide ((l.length:Int)<1))||(decide (16<(l.length:Int))))=false)(hk:l.length<=k)(D:iH 0 l=iH last (l.drop k)):true=iK l:=by
 rw[WG h,D,Ō hk]; rfl
abbrev adW(h:((decide ((l.length:Int)<1))||(decide (16<(l.length:Int))))=false)(hk:k<l.length)(J:iH 0 l=iH last (l.drop k))(D:((decide (l[k].o<last))||(decide (65536<l[k].o)))=true):false=iK l:=by
 rw[WG h,J,ń hk,iH];simp only[ų,Þ]at D;rcases D with D | D
 .rw[Ŝ Z]; rfl
 rw[Ŝ (p:=l[k].o<=65536) Z]; simp
abbrev ZN(hk:k<l.length)(D:iH 0 l=iH last (l.drop k))(J:((decide (l[k].o<last))||(decide (65536<l[k].o)))=false):iH 0 l=iH l[k].o (l.drop (k+1)):=by
 rw[D,ń hk,iH];simp only[Ĕ,Ą]at J;rw[ņ (p:=last<=l[k].o) Z,ņ (p:=l[k].o<=65536) Z]; rfl
abbrev wL(p:bI)(x:Int)(D:Bx w b #[.u (p.r.toNat:Int),.u (p.g.toNat:Int),.u (p.b.toNat:Int),.u (p.a.toNat:Int)]) :
  Nq prog 307 #[.u x,.q b 0] w λe w'=>e = .R (.u (min x (p.a.toNat:Int)))∧w=w':=by
 skip;refine Ä func307 ntmps307 λS=>?_;have S:=S.view0 D.1 (D.range 0 4 I);refine O1 S 6 [] [.M 0 3,.re 7 (.u (if (p.a.toNat:Int)<x then (p.a.toNat:Int)else x)) (.u (min x (p.a.toNat:Int)))] (hk:=⟨apj,G⟩) λS=>Xe S (.u (min x (p.a.toNat:Int))) λS=>?_;exact⟨I,I⟩
abbrev ah6(p:bI)(J:Bx w b #[.u (p.r.toNat:Int),.u (p.g.toNat:Int),.u (p.b.toNat:Int),.u (p.a.toNat:Int)]) :
  Nq prog 306 #[.agg #[.u (p.r.toNat:Int),.u (p.g.toNat:Int),.u (p.b.toNat:Int),.u (p.a.toNat:Int)],.func (.func 307) #[] #[.q b 0]] w (Ï w (.agg #[.u (min (p.r.toNat:Int) (p.a.toNat:Int)),.u (min (p.g.toNat:Int) (p.a.toNat:Int)),.u (min (p.b.toNat:Int) (p.a.toNat:Int)),.u (min (p.a.toNat:Int) (p.a.toNat:Int))])):=by
 skip;refine Ä func306 ntmps306 λS=>?_;have S:=S.view0 J.1 (J.range 0 4 I);refine Â S λu b2 E3 D S=>Â S λu b5 E6 D S=>ć S 17 [.M 1 0,.M 1 1,.M 1 2,.M 1 3] [(_,_,true,.u (min (p.r.toNat:Int) (p.a.toNat:Int))),(_,_,true,.u (min (p.g.toNat:Int) (p.a.toNat:Int))),(_,_,true,.u (min (p.b.toNat:Int) (p.a.toNat:Int))),(_,_,true,.u (min (p.a.toNat:Int) (p.a.toNat:Int)))] [(21,.agg #[.u (min (p.r.toNat:Int) (p.a.toNat:Int)),.u (min (p.g.toNat:Int) (p.a.toNat:Int)),.u (min (p.b.toNat:Int) (p.a.toNat:Int)),.u (min (p.a.toNat:Int) (p.a.toNat:Int))])] ⟨λu D g=>Ġ (wL p (p.r.toNat:Int) (J.ext (Ip S.E D))),λu D g=>Ġ (wL p (p.g.toNat:Int) (J.ext (Ip S.E D))),λu D g=>Ġ (wL p (p.b.toNat:Int) (J.ext (Ip S.E D))),λu D g=>Ġ (wL p (p.a.toNat:Int) (J.ext (Ip S.E D))),G⟩ λu E9 S=>É S 0 I λu D S=>ü S 0 I (v := .agg #[.u (min (p.r.toNat:Int) (p.a.toNat:Int)),.u (min (p.g.toNat:Int) (p.a.toNat:Int)),.u (min (p.b.toNat:Int) (p.a.toNat:Int)),.u (min (p.a.toNat:Int) (p.a.toNat:Int))]) λS=>?_;exact⟨I,S.E⟩
abbrev ZO(p:bI)(w:E5) :
  Nq prog 277 #[.agg #[.u (p.r.toNat:Int),.u (p.g.toNat:Int),.u (p.b.toNat:Int),.u (p.a.toNat:Int)]] w (Ï w (.agg #[.u (min (p.r.toNat:Int) (p.a.toNat:Int)),.u (min (p.g.toNat:Int) (p.a.toNat:Int)),.u (min (p.b.toNat:Int) (p.a.toNat:Int)),.u (min (p.a.toNat:Int) (p.a.toNat:Int))])):=by
 skip;refine Ä func277 ntmps277 λS=>Â S λu b2 J D S=>Â S λu b5 J D S=>O1 S 2 [] [.M 1 0] λS=>ð S (ah6 p (S.kV 1)) λu D S=>É S 0 I λu D S=>ü S 0 I (v := .agg #[.u (min (p.r.toNat:Int) (p.a.toNat:Int)),.u (min (p.g.toNat:Int) (p.a.toNat:Int)),.u (min (p.b.toNat:Int) (p.a.toNat:Int)),.u (min (p.a.toNat:Int) (p.a.toNat:Int))]) λS=>?_;exact⟨I,S.E⟩
abbrev Sl(p:bI)(w:E5) :
  Nq prog 237 #[.agg #[.u (p.r.toNat:Int),.u (p.g.toNat:Int),.u (p.b.toNat:Int),.u (p.a.toNat:Int)]] w (Ï w (.b p.valid)):=by
 skip;refine Ä func237 ntmps237 λS=>Â S λu b2 J D S=>ć S 4 [.M 0 0,.M 0 0,.cmp .eql 178 (.tmp 4) (.tmp 5) (.agg #[.u (min (p.r.toNat:Int) (p.a.toNat:Int)),.u (min (p.g.toNat:Int) (p.a.toNat:Int)),.u (min (p.b.toNat:Int) (p.a.toNat:Int)),.u (min (p.a.toNat:Int) (p.a.toNat:Int))]) (.agg #[.u (p.r.toNat:Int),.u (p.g.toNat:Int),.u (p.b.toNat:Int),.u (p.a.toNat:Int)]) (.b (((min (p.r.toNat:Int) (p.a.toNat:Int))==(p.r.toNat:Int))&&(((min (p.g.toNat:Int) (p.a.toNat:Int))==(p.g.toNat:Int))&&(((min (p.b.toNat:Int) (p.a.toNat:Int))==(p.b.toNat:Int))&&((min (p.a.toNat:Int) (p.a.toNat:Int))==(p.a.toNat:Int))))))] [(_,_,true,.agg #[.u (min (p.r.toNat:Int) (p.a.toNat:Int)),.u (min (p.g.toNat:Int) (p.a.toNat:Int)),.u (min (p.b.toNat:Int) (p.a.toNat:Int)),.u (min (p.a.toNat:Int) (p.a.toNat:Int))])] [(6,.b (((min (p.r.toNat:Int) (p.a.toNat:Int))==(p.r.toNat:Int))&&(((min (p.g.toNat:Int) (p.a.toNat:Int))==(p.g.toNat:Int))&&(((min (p.b.toNat:Int) (p.a.toNat:Int))==(p.b.toNat:Int))&&((min (p.a.toNat:Int) (p.a.toNat:Int))==(p.a.toNat:Int))))))] ⟨λu D g=>ZO p _,G⟩ (hk:=⟨ı (λ_=>ak1 ..) X,G⟩) λu D S=>Xe S (.b (((min (p.r.toNat:Int) (p.a.toNat:Int))==(p.r.toNat:Int))&&(((min (p.g.toNat:Int) (p.a.toNat:Int))==(p.g.toNat:Int))&&(((min (p.b.toNat:Int) (p.a.toNat:Int))==(p.b.toNat:Int))&&((min (p.a.toNat:Int) (p.a.toNat:Int))==(p.a.toNat:Int)))))) λS=>?_;exact⟨aJ (adS p),S.E⟩
abbrev ZP(p:bI)(w:E5) :
  Nq prog 236 #[.agg #[.u (p.r.toNat:Int),.u (p.g.toNat:Int),.u (p.b.toNat:Int),.u (p.a.toNat:Int)]] w (Ï w (.b (!p.valid))):=by
 skip;refine Ä func236 ntmps236 λS=>Â S λu b2 J D S=>O1 S 2 [] [.M 0 0] λS=>ð S (Sl p _) λu D S=>Xe S (.b (!p.valid)) λS=>?_;exact⟨I,S.E⟩
abbrev Sm{l:List bI}(h:aG 4 bI.cells w v l) :
  Nq prog 276 #[v,.func (.func 236) #[] #[]] w λe w'=>∃z,e = .R (.i z)∧decide (0<=z) = !(l.all bI.valid)∧Ext w w':=by
 obtain⟨a,cap,rfl⟩:=h.shape;have D:l.length<=9223372036854775807:=h.len;refine Ä func276 ntmps276 λS=>ĉ S (ι:=Nat) (λp D w'=>p<=l.length∧((l.take p).all bI.valid=true)∧Sx.St w D w' 19 [(0,.s a l.length cap),(1,.func (.func 236) #[] #[]),(4,.i 0),(7,.i l.length),(8,.i p)] [] []) (λp=>l.length-p) (0) (λS=>⟨Î _,I,S.qC⟩) ?_;rintro k J u fQ eu D;try dsimp only at D
 obtain⟨hk,hR,S⟩:=D;refine Ċ S λS=>À S (decide ((k:Int)<(l.length:Int))) (λJ S=>?_) λJ S=>?_
 .have uN:k<l.length:=by have:=Ý J; omega
  obtain⟨b10,D,rfl,aa,BO,wZ,QF⟩:=ý h (λ_=>I) (k) uN;have S:=S.view0 wZ QF;refine O1 S 7 [] [.idx k l.length,.M 0 0] (hk:=⟨uN,G⟩) λS=>ð S (ZP aa _) λu D S=>À S (!aa.valid) (λD S=>?_) λD S=>?_
  .refine Xe S (.i k) λS=>?_;exact⟨_,I,by rw[zu uN (by rw[BO]; simpa using D)]; simp,S.E⟩
  refine O1 S 2 [] [kS 18 k] (hk:=⟨ù Z,G⟩) λS=>ċ S fQ λS=>?_;exact eu _ _ (k+1) ⟨Z,(mQ uN hR (by rw[BO]; simpa using D)),S.qC⟩ (by show _-_<_-_; omega)
 refine Xe S (.i (-1)) λS=>?_;exact⟨_,I,by rw[yI (by have:=é J; omega) hR]; rfl,S.E⟩
abbrev WH{l:List bI}(h:aG 4 bI.cells w v l) :
  Nq prog 235 #[v,.func (.func 236) #[] #[]] w (Ï w (.b (!(l.all bI.valid)))):=by
 skip;refine Ä func235 ntmps235 λS=>ê S (Sm (h.below S.E)) ?_;rintro e u ⟨z,rfl,D,J⟩;refine⟨_,I,J,λS=>?_⟩;refine Xe S (.b (0<=z)) λS=>?_;exact⟨aJ D,S.E⟩
abbrev WI(n:Int)(w:E5) :
  Nq prog 234 #[.i n] w λe w'=>e = .R (.b (side n))∧w=w':=by
 skip;refine Ä func234 ntmps234 λS=>Xe S (.b ((decide (1<=n))&&(decide (n<=4096)))) λS=>?_;exact⟨I,I⟩
abbrev Ej(h:m.ok w) :
  Nq prog 195 #[m.v] w (Ï w (.b m.valid)):=by
 obtain⟨a,cap,D⟩:=h.F.shape;unfold dH.v;have J:=h.F;rw[D];rw[D]at J;refine Ä func195 ntmps195 λS=>Â S λu b2 E3 D S=>O1 S 5 [] [.M 0 0] λS=>nH S (WI m.w _) λS=>ī S 27 [.M 0 1,.M 0 0,.M 0 1,.M 0 2,.M 0 0,.M 0 1] [(_,_,(!(!(side m.w))),.b (side m.h))] [(34,.b ((((!(side m.w))||(!(side m.h)))||(decide (65536<(IntKind.i64.wrap (m.w*m.h)))))||(((m.l.length:Int)) != (IntKind.i64.wrap (m.w*m.h)))))] ⟨λu D g=>Ġ (WI m.h _),G⟩ λu D S=>À S ((((!(side m.w))||(!(side m.h)))||(decide (65536<(IntKind.i64.wrap (m.w*m.h)))))||(((m.l.length:Int)) != (IntKind.i64.wrap (m.w*m.h)))) (λD S=>?_) λD S=>?_
 .refine Xe S (.z) λS=>?_;exact⟨aJ (apg (WE▸D)),S.E⟩
 refine O1 S 2 [] [.M 0 2] λS=>ð S (WH (J.below S.E)) λu rW S=>Xe S (.b (!(!(m.l.all bI.valid)))) λS=>?_;exact⟨aJ (akE (WE▸D)),S.E⟩
abbrev vG(h:m.ok w)(h':n.ok w) :
  Nq prog 141 #[m.v,n.v] w (Ï w (.b (m.eq n))):=by
 skip;refine Ä func141 ntmps141 λS=>Â S λu b2 J D S=>Â S λu b5 J D S=>O1 S 1 [] [] λS=>ī S 20 [.M 1 0,.M 0 0,.M 1 1,.M 0 1,.M 1 2,.M 0 2] [(_,_,(((m.w)==n.w)&&((m.h)==n.h)),.b (m.l=n.l))] [(4,.b ((((m.w)==n.w)&&((m.h)==n.h))&&(decide (m.l=n.l))))] ⟨λu D g=>adQ (h.F.below (Ip S.E D)) (h'.F.below (Ip S.E D)),G⟩ λu J S=>Xe S (.b ((((m.w)==n.w)&&((m.h)==n.h))&&(decide (m.l=n.l)))) λS=>?_;exact⟨aJ aph,S.E⟩
abbrev NI(h:aG 5 dI.cells w v l) :
  Nq prog 331 #[v] w (Ï w (.b (iK l))):=by
 obtain⟨a,cap,rfl⟩:=h.shape;have D:l.length<=9223372036854775807:=h.len;refine Ä func331 ntmps331 λS=>À S ((decide ((l.length:Int)<1))||(decide (16<(l.length:Int)))) (λJ S=>?_) λJ S=>?_
 .refine Xe S (.z) λS=>?_;exact⟨aJ (adU J),S.E⟩
 refine ĉ S (ι:=Nat×Int) (λp D w'=>p.1<=l.length∧(iH 0 l=iH p.2 (l.drop p.1))∧Sx.St w D w' 32 [(0,.s a l.length cap),(2,.z),(3,.i p.2),(14,.s a l.length cap),(15,.i l.length),(16,.i p.1)] [] []) (λp=>l.length-p.1) (0,0) (λS=>⟨Î _,I,S.qC⟩) ?_;rintro⟨k,last⟩ ac u fQ eu hI;try dsimp only at hI
 obtain⟨hk,hR,S⟩:=hI;refine Ċ S λS=>À S (decide ((k:Int)<(l.length:Int))) (λfJ S=>?_) λfJ S=>?_
 .have oV:k<l.length:=by have:=Ý fJ; omega
  obtain⟨D,af,rfl,aa,vH,xJ,Qd⟩:=ý h (λ_=>I) (k) oV;have S:=S.view0 xJ Qd;refine O1 S 2 [] [.idx k l.length,.M 0 0] (hk:=⟨oV,G⟩) λS=>Â S λu D ab ae S=>É S 0 I λu D S=>O1 S 9 [] [.M 0 0,.M 0 0] λS=>À S ((decide (aa.o<last))||(decide (65536<aa.o))) (λD S=>?_) λD S=>?_
  .refine Xe S (.z) λS=>?_;exact⟨aJ (adW J oV hR (by rw[vH]; exact D)),S.E⟩
  refine O1 S 5 [] [.M 0 0,kS 31 k] (hk:=⟨ù Z,G⟩) λS=>ċ S fQ λS=>?_;exact eu _ _ ((k+1),aa.o) ⟨Z,(by rw[<-vH]; exact ZN oV hR (by rw[vH]; exact D)),(S.gK 1).qC⟩ (by show _-_<_-_; omega)
 refine Xe S (.b true) λS=>?_;exact⟨aJ (adV J (by have:=é fJ; omega) hR),S.E⟩
abbrev ah7(n:Int)(w:E5) :
  Nq prog 193 #[.i n] w λe w'=>e = .R (.b (decide (1<=n)&&decide (n<=13)))∧w=w':=by
 skip;refine Ä func193 ntmps193 λS=>Xe S (.b ((decide (1<=n))&&(decide (n<=13)))) λS=>?_;exact⟨I,I⟩
abbrev LG(n:Int)(w:E5) :
  Nq prog 305 #[.i n] w λe w'=>e = .R (.b (iP n))∧w=w':=by
 skip;refine Ä func305 ntmps305 λS=>Xe S (.b ((decide (1<=n))&&(decide (n<=3)))) λS=>?_;exact⟨I,I⟩
abbrev ah8(n:Int)(w:E5) :
  Nq prog 271 #[.i n] w λe w'=>e = .R (.b (decide (1<=n)&&decide (n<=16384)))∧w=w':=by
 skip;refine Ä func271 ntmps271 λS=>Xe S (.b ((decide (1<=n))&&(decide (n<=16384)))) λS=>?_;exact⟨I,I⟩
variable{α:Type}
def qL(l s:List Int):Option Bool:=if s.all (λx=>decide (0<=x)&&decide (x<=1048576))then some (((l.length:Int)==0)||s.any (λx=>decide (0<x)))else none
def tZ(l:List Int):Bool:=l.all (λx=>decide (0<=x)&&decide (x<=1048576))&&((((((l.length:Int)==0)||l.any (λx=>decide (0<x)))&&((Int.tmod (l.length:Int) 2)==0))&&(decide ((l.length:Int)<=16))))
variable{l:List Int}{w:E5}{k:Nat}{any:Bool}{v:y9}
abbrev adX(l:List Int):qL l (l.take 0)=some ((l.length:Int)==0):=by simp[qL]
abbrev adY(hk:k<l.length)(D:qL l (l.take k)=some any)(J:((decide (l[k]<0))||(decide (1048576<l[k])))=false):qL l (l.take (k+1))=some (any||(decide (0<l[k]))):=by
 unfold qL at D |-;rw[ĸ hk,List.all_append,List.any_append];simp only[Ĕ,Ą]at J;split at D
 .rename_i h;obtain rfl:=Ò D;rw[h];simp[show 0<=l[k] by omega,show l[k]<=1048576 by omega,Bool.or_assoc]
 cases D
abbrev ah9(hk:k<l.length)(J:qL l (l.take k)=some any)(D:((decide (l[k]<0))||(decide (1048576<l[k])))=true):false=tZ l:=by
 simp only[ų,Þ]at D;unfold tZ;rw[zu hk (by simp; omega)]; rfl
abbrev aia(hk:l.length<=k)(D:qL l (l.take k)=some any):((any&&((Int.tmod (l.length:Int) 2)==0))&&(decide ((l.length:Int)<=16)))=tZ l:=by
 unfold qL at D;rw[Ď hk]at D;split at D
 .rename_i h;obtain rfl:=Ò D;unfold tZ;rw[h]; rfl
 cases D
def dN(b:Bool)(n:Int):y9:=if b=true then .iface 213 (.agg #[.i n,.nilIface])else .nilIface
abbrev adZ{b:Bool}{n:Int}{x:Operand}:∀w,(do eqGuard .neq 210 x (.const .nilIface) (dN b n) .nilIface; binOp .neq 210 (dN b n) .nilIface:Sem y9).run prog w = .ok (.b (!(!b))) w:=λw=>by
 cases b<;>simp[dN,go_sem]
def kX:List (Bool×Int)->y9
 | [] => .nilIface
 | p::l=>if p.1=true then .iface 213 (.agg #[.i 0,.iface 213 (.agg #[.i p.2,.nilIface])])else kX l
abbrev ZQ(h:dG Ac w v l) :
  Nq prog 272 #[v] w (Ï w (.b (tZ l))):=by
 obtain⟨a,cap,rfl⟩:=(eU h).shape;have D:l.length<=9223372036854775807:=(eU h).len;refine Ä func272 ntmps272 λS=>ĉ S (ι:=Nat×Bool) (λp D w'=>p.1<=l.length∧(qL l (l.take p.1)=some p.2)∧Sx.St w D w' 39 [(0,.s a l.length cap),(2,.z),(3,.b p.2),(9,.s a l.length cap),(10,.i l.length),(11,.i p.1)] [] []) (λp=>l.length-p.1) (0,((l.length:Int)==0)) (λS=>⟨Î _,adX l,S.qC⟩) ?_;rintro⟨k,any⟩ ac u fQ eu hI;try dsimp only at hI
 obtain⟨hk,hR,S⟩:=hI;refine Ċ S λS=>À S (decide ((k:Int)<(l.length:Int))) (λJ S=>?_) λJ S=>?_
 .have uN:k<l.length:=by have:=Ý J; omega
  obtain⟨b10,aa,rfl,D,BO,wZ,QF⟩:=ý (eU h) (λ_=>I) (k) uN;have S:=S.view0 wZ QF;refine O1 S 9 [] [.idx k l.length,.M 0 0] (hk:=⟨uN,G⟩) λS=>À S ((decide (D<0))||(decide (1048576<D))) (λrO S=>?_) λrO S=>?_
  .refine Xe S (.z) λS=>?_;exact⟨aJ (ah9 uN hR (by rw[BO]; exact rO)),S.E⟩
  refine O1 S 8 [] [kS 26 k] (hk:=⟨ù Z,G⟩) λS=>ċ S fQ λS=>?_;exact eu _ _ ((k+1),any||(decide (0<D))) ⟨Z,(by rw[<-BO]; exact adY uN hR (by rw[BO]; exact rO)),S.qC⟩ (by show _-_<_-_; omega)
 refine Xe S (.b ((any&&(((Int.tmod (l.length:Int) 2))==0))&&(decide ((l.length:Int)<=16)))) λS=>?_;exact⟨aJ (aia (by have:=é J; omega) hR),S.E⟩
def aX.valid(p:aX):Bool:=(((((((decide (1<=p.width)&&decide (p.width<=16384))&&((((p.join)==1)||((p.join)==2))||((p.join)==3)))&&((((p.cap)==3)||((p.cap)==4))||((p.cap)==5)))&&(decide (256<=p.eP)))&&(decide (p.eP<=65536)))&&(tZ p.dash))&&(decide (0<=p.phase)))&&(decide (p.phase<=1048576))
def aX.eq(p q:aX):Bool:=((((((p.width)==q.width)&&((p.join)==q.join))&&((p.cap)==q.cap))&&((p.eP)==q.eP))&&((p.phase)==q.phase))&&(decide (p.dash=q.dash))
abbrev ad1{p:aX}(h:p.ok w) :
  Nq prog 232 #[p.v] w (Ï w (.b p.valid)):=by
 skip;refine Ä func232 ntmps232 λS=>Â S λu b2 J D S=>O1 S 31 [] [.M 0 1,.M 0 1,.M 0 1,.M 0 2,.M 0 2,.M 0 2,.M 0 0] λS=>nH S (ah8 p.width _) λS=>ī S 32 [.M 0 3,.M 0 3,.M 0 4,.M 0 5,.M 0 5] [(_,_,(((((decide (1<=p.width)&&decide (p.width<=16384))&&((((p.join)==1)||((p.join)==2))||((p.join)==3)))&&((((p.cap)==3)||((p.cap)==4))||((p.cap)==5)))&&(decide (256<=p.eP)))&&(decide (p.eP<=65536))),.b (tZ p.dash))] [(2,.b ((((((((decide (1<=p.width)&&decide (p.width<=16384))&&((((p.join)==1)||((p.join)==2))||((p.join)==3)))&&((((p.cap)==3)||((p.cap)==4))||((p.cap)==5)))&&(decide (256<=p.eP)))&&(decide (p.eP<=65536)))&&(tZ p.dash))&&(decide (0<=p.phase)))&&(decide (p.phase<=1048576))))] ⟨λu D g=>ZQ (h.A.below (Ip S.E D)),G⟩ λu J S=>Xe S (.b ((((((((decide (1<=p.width)&&decide (p.width<=16384))&&((((p.join)==1)||((p.join)==2))||((p.join)==3)))&&((((p.cap)==3)||((p.cap)==4))||((p.cap)==5)))&&(decide (256<=p.eP)))&&(decide (p.eP<=65536)))&&(tZ p.dash))&&(decide (0<=p.phase)))&&(decide (p.phase<=1048576)))) λS=>?_;exact⟨I,S.E⟩
abbrev xI{p q:aX}(h:p.ok w)(h':q.ok w) :
  Nq prog 140 #[p.v,q.v] w (Ï w (.b (p.eq q))):=by
 skip;refine Ä func140 ntmps140 λS=>Â S λu b2 J D S=>Â S λu b5 J D S=>O1 S 1 [] [] λS=>ī S 41 [.M 1 0,.M 0 0,.M 1 1,.M 0 1,.M 1 2,.M 0 2,.M 1 3,.M 0 3,.M 1 5,.M 0 5,.M 1 4,.M 0 4] [(_,_,((((((p.width)==q.width)&&((p.join)==q.join))&&((p.cap)==q.cap))&&((p.eP)==q.eP))&&((p.phase)==q.phase)),.b (p.dash=q.dash))] [(4,.b (((((((p.width)==q.width)&&((p.join)==q.join))&&((p.cap)==q.cap))&&((p.eP)==q.eP))&&((p.phase)==q.phase))&&(decide (p.dash=q.dash))))] ⟨λu D g=>adR (eU (h.A.below (Ip S.E D))) (eU (h'.A.below (Ip S.E D))),G⟩ λu J S=>Xe S (.b (((((((p.width)==q.width)&&((p.join)==q.join))&&((p.cap)==q.cap))&&((p.eP)==q.eP))&&((p.phase)==q.phase))&&(decide (p.dash=q.dash)))) λS=>?_;exact⟨I,S.E⟩
abbrev WJ(n:Int)(w:E5) :
  Nq prog 186 #[.i n] w λe w'=>e = .R (.b ((n==1)||(n==2)))∧w=w':=by
 skip;refine Ä func186 ntmps186 λS=>Xe S (.b (((n)==1)||((n)==2))) λS=>?_;exact⟨I,I⟩
abbrev ji(b:Bool)(n:Int)(w:E5) :
  Nq prog 188 #[.b b,.i n] w λe w'=>e = .R (dN b n)∧w=w':=by
 skip;refine Ä func188 ntmps188 λS=>À S (!b) (λD S=>?_) λD S=>?_
 .refine Xe S (.nilIface) λS=>?_;obtain rfl:b=false:=by simpa using D
  exact⟨I,I⟩
 refine Xe S (.iface 213 (.agg #[.i n,.nilIface])) λS=>?_;obtain rfl:b=true:=by simpa using D
 exact⟨I,I⟩
abbrev first_any{l:List (Bool×Int)}(h:aG 1 (λp=>[dN p.1 p.2]) w v l) :
  Nq prog 187 #[v] w (Ï w (kX l)):=by
 obtain⟨a,cap,rfl⟩:=h.shape;have D:l.length<=9223372036854775807:=h.len;refine Ä func187 ntmps187 λS=>ĉ S (ι:=Nat) (λp D w'=>p<=l.length∧(kX l=kX (l.drop p))∧Sx.St w D w' 17 [(0,.s a l.length cap),(2,.nilIface),(5,.s a l.length cap),(6,.i l.length),(7,.i p)] [] []) (λp=>l.length-p) (0) (λS=>⟨Î _,I,S.qC⟩) ?_;rintro k J u fQ eu D;try dsimp only at D
 obtain⟨hk,hR,S⟩:=D;refine Ċ S λS=>À S (decide ((k:Int)<(l.length:Int))) (λaa S=>?_) λaa S=>?_
 .have gV:k<l.length:=by have:=Ý aa; omega
  obtain⟨b9,ab,rfl,D,jU,J,vK⟩:=ý h (λ_=>I) (k) gV;have S:=S.view0 J vK;refine O1 S 5 [] [.idx k l.length,.M 0 0,.cmp .neq 210 (.tmp 11) (.const .nilIface) (dN D.1 D.2) .nilIface (.b (!(!D.1)))] (hk:=⟨gV,adZ,G⟩) λS=>À S (!(!D.1)) (λJ S=>?_) λJ S=>?_
  .have hb:D.1=true:=by simpa using J
   rw[show dN D.1 D.2 = .iface 213 (.agg #[.i D.2,.nilIface])from Á hb]at S;try rw[show dN D.1 D.2 = .iface 213 (.agg #[.i D.2,.nilIface])from Á hb]
   refine Xe S (.iface 213 (.agg #[.i 0,.iface 213 (.agg #[.i D.2,.nilIface])])) λS=>?_;exact⟨by rw[hR,ń gV,jU,kX,Á hb],S.E⟩
  refine O1 S 2 [] [kS 16 k] (hk:=⟨ù Z,G⟩) λS=>ċ S fQ λS=>?_;exact eu _ _ (k+1) ⟨Z,(by rw[hR,ń gV,jU,kX,UQ (by simpa using J)]),S.qC⟩ (by show _-_<_-_; omega)
 refine Xe S (.nilIface) λS=>?_;exact⟨by rw[hR,Ō (by have:=é aa; omega)]; rfl,S.E⟩
end
section
variable{α:Type}
variable{n:Nat}{p q:Bool×Nat×Nat}
abbrev Fz(v:y9)(Q:Q6)(K:Nat)(w:E5)(h:nC K w v Q)(D:K<=100000) :
  Nq prog 180 #[v] w λe w'=>∃x,e = .R x∧uj w.heap.size w' x Q∧Ext w w':=by
 obtain⟨t,rfl,J,h1,h2,h3,h4,h5⟩:=h.sQ;refine Ä func180 ntmps180 λS=>Ú S t.cells λu b2 E3 D S=>Ú S Sx.za λu b5 E6 D S=>O1 S 13 [] [.M 1 0,.M 1 4,.M 1 8,.M 1 12,.M 1 16,.M 1 20] λS=>Ú S Sx.za λu b9 SE D S=>í S 0 (off:=0) (cs:=t.cells) I λu D S=>O1 S 2 [] [.M 0 0] λS=>Š S 6 λS=>ã S λS=>Ú S Sx.zr λu D zV xJ S=>í S 0 (off:=0) (cs:=t.a.cells) I λu D S=>O1 S 2 [] [.M 0 0] λS=>ê S (jY _ _ K _ (J.below S.E) Z) ?_;rintro e u ⟨x,rfl,x0,D⟩;obtain⟨r0,rfl⟩:=aC.iR x0;have J:=S.E.size;have J:=(S.bx 0).1;have J:=(S.bx 1).1;have J:=(S.bx 2).1;have J:=(S.bx 3).1;refine⟨_,I,D,λS=>?_⟩;refine í S 1 (off:=0) (cs:=r0.cells) I λu D S=>?_;have BI:=aC.ch x0 D Z;refine ã S λS=>Ú S Sx.zr λu D J a7 S=>í S 0 (off:=0) (cs:=t.b.cells) I λu D S=>?_;have S:=S.fl;have Tt:=È J D;refine O1 S 2 [] [.M 0 0] λS=>ê S (jY _ _ K _ (h1.below S.E) Z) ?_;rintro e u ⟨x,rfl,x1,J⟩;obtain⟨r1,rfl⟩:=aC.iR x1;have y1:=S.E.size;have D:=(S.bx 0).1;have D:=(S.bx 1).1;have D:=(S.bx 2).1;have D:=(S.bx 3).1;have D:=(S.bx 4).1;refine⟨_,I,J,λS=>?_⟩;refine í S 2 (off:=4) (cs:=r1.cells) I λu D S=>?_;have Ah:=aC.ch (BI.ext (Ip Tt J)) D Z;have BH:=aC.ch x1 D Z;refine ã S λS=>Ú S Sx.zr λu J D Zg S=>í S 0 (off:=0) (cs:=t.c.cells) I λu J S=>?_;have aa:=È D J;have TD:=È D J;refine O1 S 2 [] [.M 0 0] λS=>ê S (jY _ _ K _ (h2.below S.E) Z) ?_;rintro e u ⟨x,rfl,x2,J⟩;obtain⟨r2,rfl⟩:=aC.iR x2;have y2:=S.E.size;have D:=(S.bx 0).1;have D:=(S.bx 1).1;have D:=(S.bx 2).1;have D:=(S.bx 3).1;have D:=(S.bx 4).1;have D:=(S.bx 5).1;refine⟨_,I,J,λS=>?_⟩;refine í S 3 (off:=8) (cs:=r2.cells) I λu D S=>?_;have EC:=aC.ch (Ah.ext (Ip aa J)) D Z;have Dx:=aC.ch (BH.ext (Ip TD J)) D Z;have GU:=aC.ch x2 D Z;refine ã S λS=>Ú S Sx.zr λu D J a8 S=>í S 0 (off:=0) (cs:=t.d.cells) I λu D S=>?_;have S:=S.fl;have ab:=È J D;have ac:=È J D;have ae:=È J D;refine O1 S 2 [] [.M 0 0] λS=>ê S (jY _ _ K _ (h3.below S.E) Z) ?_;rintro e u ⟨x,rfl,x3,J⟩;obtain⟨r3,rfl⟩:=aC.iR x3;have D:=S.E.size;have D:=(S.bx 0).1;have D:=(S.bx 1).1;have D:=(S.bx 2).1;have D:=(S.bx 3).1;have D:=(S.bx 4).1;have D:=(S.bx 5).1;have D:=(S.bx 6).1;refine⟨_,I,J,λS=>?_⟩;refine í S 4 (off:=12) (cs:=r3.cells) I λu D S=>?_;have IQ:=aC.ch (EC.ext (Ip ab J)) D Z;have Qa:=aC.ch (Dx.ext (Ip ac J)) D Z;have af:=aC.ch (GU.ext (Ip ae J)) D Z;have ag:=aC.ch x3 D Z;refine ã S λS=>Ú S Sx.zr λu J D a9 S=>í S 0 (off:=0) (cs:=t.e.cells) I λu J S=>?_;have ah:=È D J;have ai:=È D J;have al:=È D J;have am:=È D J;refine O1 S 2 [] [.M 0 0] λS=>ê S (jY _ _ K _ (h4.below S.E) Z) ?_;rintro e u ⟨x,rfl,x4,J⟩;obtain⟨r4,rfl⟩:=aC.iR x4;have D:=S.E.size;have D:=(S.bx 0).1;have D:=(S.bx 1).1;have D:=(S.bx 2).1;have D:=(S.bx 3).1;have D:=(S.bx 4).1;have D:=(S.bx 5).1;have D:=(S.bx 6).1;have D:=(S.bx 7).1;refine⟨_,I,J,λS=>?_⟩;refine í S 5 (off:=16) (cs:=r4.cells) I λu D S=>?_;have an:=aC.ch (IQ.ext (Ip ah J)) D Z;have MV:=aC.ch (Qa.ext (Ip ai J)) D Z;have Qr:=aC.ch (af.ext (Ip al J)) D Z;have Qs:=aC.ch (ag.ext (Ip am J)) D Z;have Yc:=aC.ch x4 D Z;refine ã S λS=>Ú S Sx.zr λu J D bb S=>í S 0 (off:=0) (cs:=t.f.cells) I λu J S=>?_;have S:=S.fl;have ao:=È D J;have ap:=È D J;have aq:=È D J;have ar:=È D J;have av:=È D J;refine O1 S 2 [] [.M 0 0] λS=>ê S (jY _ _ K _ (h5.below S.E) Z) ?_;rintro e u ⟨x,rfl,x5,D⟩;obtain⟨r5,rfl⟩:=aC.iR x5;have J:=S.E.size;have J:=(S.bx 0).1;have J:=(S.bx 1).1;have J:=(S.bx 2).1;have J:=(S.bx 3).1;have J:=(S.bx 4).1;have J:=(S.bx 5).1;have J:=(S.bx 6).1;have J:=(S.bx 7).1;have J:=(S.bx 8).1;refine⟨_,I,D,λS=>?_⟩;refine í S 6 (off:=20) (cs:=r5.cells) I λu J S=>?_;have UR:=aC.ch (an.ext (Ip ao D)) J Z;have UU:=aC.ch (MV.ext (Ip ap D)) J Z;have UW:=aC.ch (Qr.ext (Ip aq D)) J Z;have aw:=aC.ch (Qs.ext (Ip ar D)) J Z;have ax:=aC.ch (Yc.ext (Ip av D)) J Z;have ay:=aC.ch x5 J Z;refine ă S λS=>O1 S 1 [] [.M 6 0] λS=>í S 7 (off:=0) (cs:=(r0.cells++r1.cells++r2.cells++r3.cells++r4.cells++r5.cells)) I λu D S=>?_;have J:=aC.ch UR D Z;have az:=aC.ch UU D Z;have a3:=aC.ch UW D Z;have a4:=aC.ch aw D Z;have a5:=aC.ch ax D Z;have a6:=aC.ch ay D Z;refine ü S 7 I (v := .agg (r0.cells++r1.cells++r2.cells++r3.cells++r4.cells++r5.cells).toArray) λS=>?_;exact⟨_,I,eF.of (t:=⟨r0,r1,r2,r3,r4,r5⟩) (aC.mono J Z) (aC.mono az Z) (aC.mono a3 Z) (aC.mono a4 Z) (aC.mono a5 Z) (aC.mono a6 Z),S.E⟩
abbrev jJ(h:decide (256<(n:Int))=false):decide (n<=256)=true:=by
 simp only[Þ,Ą]at h |-;omega
abbrev PG(h:decide (256<(n:Int))=true):decide (n<=256)=false:=by
 simp only[Þ,Ą]at h |-;omega
abbrev jK(h:(nD p q != 0)=false):qB p q=true:=by unfold qB; simpa[bne]using h
abbrev PK(h:(nD p q != 0)=true):qB p q=false:=by unfold qB; simpa[bne]using h
abbrev LH(v:y9)(Q:Q6)(K:Nat)(w:E5)(h:nC K w v Q)(aa:1<=K)(D:K<=100000) :
  Nq prog 189 #[v] w (Ï w (.b Q.valid)):=by
 have J:=h;obtain⟨aw,ax,ay,az,a3,a4⟩:=h.nrm;obtain⟨a5,a6,a7,a8,a9,bb⟩:=h.len aa;obtain⟨t,rfl,D,h1,h2,h3,h4,h5⟩:=h.sQ;refine Ä func189 ntmps189 λS=>Â S λu b2 E3 D S=>O1 S 2 [] [.M 0 0] λS=>ê S (Fz _ Q K _ (J.iT S.E) Z) ?_;rintro e u ⟨x,rfl,hm,D⟩;obtain⟨m,rfl,-⟩:=hm.sT;refine⟨_,I,D,λS=>?_⟩;refine Š S 6 λS=>ã S λS=>Â S λu D GL J S=>É S 0 I λu D S=>?_;have J:=È GL D;refine O1 S 1 [] [.M 0 0] λS=>ð S (nZ _ Q.a K _ (aC.toQ (hm.uX J).pa aw a5) aa Z) λu zU S=>À S (decide (256<(eY Q.a:Int))) (λD S=>?_) λD S=>?_
 .have g0:decide (eY Q.a<=256)=false:=PG D;refine Xe S (.z) λS=>?_;exact⟨by rw[show Q.valid=false from by simp[Q6.valid,g0]],S.E⟩
 refine ã S λS=>Â S λu bc WV IY S=>É S 0 I λu SH S=>?_;have zW:=È (Ip J (Ip zU WV)) SH (by have:=(Ip J zU).size; omega);refine O1 S 1 [] [.M 0 0] λS=>ð S (nZ _ Q.b K _ (aC.toQ (hm.uX zW).pb ax a6) aa Z) λu Bg S=>À S (decide (256<(eY Q.b:Int))) (λJ S=>?_) λJ S=>?_
 .have g0:decide (eY Q.a<=256)=true:=jJ D;have g1:decide (eY Q.b<=256)=false:=PG J;refine Xe S (.z) λS=>?_;exact⟨by rw[show Q.valid=false from by simp[Q6.valid,g0,g1]],S.E⟩
 refine ã S λS=>Â S λu bd Mc be S=>É S 0 I λu am S=>?_;have af:=È (Ip zW (Ip Bg Mc)) am (by have:=(Ip zW Bg).size; omega);refine O1 S 1 [] [.M 0 0] λS=>ð S (nZ _ Q.c K _ (aC.toQ (hm.uX af).pc ay a7) aa Z) λu ah S=>À S (decide (256<(eY Q.c:Int))) (λNy S=>?_) λNy S=>?_
 .have g0:decide (eY Q.a<=256)=true:=jJ D;have g1:decide (eY Q.b<=256)=true:=jJ J;have g2:decide (eY Q.c<=256)=false:=PG Ny;refine Xe S (.z) λS=>?_;exact⟨by rw[show Q.valid=false from by simp[Q6.valid,g0,g1,g2]],S.E⟩
 refine ã S λS=>Â S λu bg Xw bh S=>É S 0 I λu an S=>?_;have S:=S.fl;have Y3:=È (Ip af (Ip ah Xw)) an (by have:=(Ip af ah).size; omega);refine O1 S 1 [] [.M 0 0] λS=>ð S (nZ _ Q.d K _ (aC.toQ (hm.uX Y3).pd az a8) aa Z) λu ai S=>À S (decide (256<(eY Q.d:Int))) (λab S=>?_) λab S=>?_
 .have g0:decide (eY Q.a<=256)=true:=jJ D;have g1:decide (eY Q.b<=256)=true:=jJ J;have g2:decide (eY Q.c<=256)=true:=jJ Ny;have g3:decide (eY Q.d<=256)=false:=PG ab;refine Xe S (.z) λS=>?_;exact⟨by rw[show Q.valid=false from by simp[Q6.valid,g0,g1,g2,g3]],S.E⟩
 refine ã S λS=>Â S λu bj ao bk S=>É S 0 I λu ap S=>?_;have ag:=È (Ip Y3 (Ip ai ao)) ap (by have:=(Ip Y3 ai).size; omega);refine O1 S 1 [] [.M 0 0] λS=>ð S (nZ _ Q.e K _ (aC.toQ (hm.uX ag).pe a3 a9) aa Z) λu al S=>À S (decide (256<(eY Q.e:Int))) (λac S=>?_) λac S=>?_
 .have g0:decide (eY Q.a<=256)=true:=jJ D;have g1:decide (eY Q.b<=256)=true:=jJ J;have g2:decide (eY Q.c<=256)=true:=jJ Ny;have g3:decide (eY Q.d<=256)=true:=jJ ab;have g4:decide (eY Q.e<=256)=false:=PG ac;refine Xe S (.z) λS=>?_;exact⟨by rw[show Q.valid=false from by simp[Q6.valid,g0,g1,g2,g3,g4]],S.E⟩
 refine ã S λS=>Â S λu bm aq bo S=>É S 0 I λu ar S=>?_;have av:=È (Ip ag (Ip al aq)) ar (by have:=(Ip ag al).size; omega);refine O1 S 1 [] [.M 0 0] λS=>ð S (nZ _ Q.f K _ (aC.toQ (hm.uX av).pf a4 bb) aa Z) λu bp S=>À S (decide (256<(eY Q.f:Int))) (λae S=>?_) λae S=>?_
 .have g0:decide (eY Q.a<=256)=true:=jJ D;have g1:decide (eY Q.b<=256)=true:=jJ J;have g2:decide (eY Q.c<=256)=true:=jJ Ny;have g3:decide (eY Q.d<=256)=true:=jJ ab;have g4:decide (eY Q.e<=256)=true:=jJ ac;have g5:decide (eY Q.f<=256)=false:=PG ae;refine Xe S (.z) λS=>?_;exact⟨by rw[show Q.valid=false from by simp[Q6.valid,g0,g1,g2,g3,g4,g5]],S.E⟩
 refine ă S λS=>?_;have g0:decide (eY Q.a<=256)=true:=jJ D;have g1:decide (eY Q.b<=256)=true:=jJ J;have g2:decide (eY Q.c<=256)=true:=jJ Ny;have g3:decide (eY Q.d<=256)=true:=jJ ab;have g4:decide (eY Q.e<=256)=true:=jJ ac;have g5:decide (eY Q.f<=256)=true:=jJ ae;refine Xe S (.b true) λS=>?_;exact⟨by rw[show Q.valid=true from by simp[Q6.valid,g0,g1,g2,g3,g4,g5]],S.E⟩
abbrev abn(v:y9)(Q:Q6)(K:Nat)(w:E5)(h:nC K w v Q)(D:1<=K)(J:K<=10000) :
  Nq prog 230 #[v] w λe w'=>∃x,e = .R x∧dR w.heap.size w' x Q.Gt∧Ext w w':=by
 have J:=h;obtain⟨J,af,ag,ah,ai,al⟩:=h.nrm;obtain⟨aa,ab,ac,ae,J,am⟩:=h.len D;obtain⟨t,rfl,h0,h1,h2,h3,J,h5⟩:=h.sQ;refine Ä func230 ntmps230 λS=>Ú S t.cells λu b2 E3 J S=>Ú S Sx.zr λu b5 E6 J S=>jm S 11 [(7,λv w1=>dR w.heap.size w1 v (Ci Q.a Q.d)),(12,λv w1=>dR w.heap.size w1 v (Ci Q.b Q.c)),(13,λv w1=>dR w.heap.size w1 v Q.Gt)] (λr=>[.M 1 0,.M 1 12,.M 1 4,.M 1 8]) (λx=>[x 7,x 12,x 13]) (λx=>[(_,_,true,x 7,7),(_,_,true,x 12,12),(_,_,true,x 13,13)]) [[],[],[7,12]] (λx=>[(13,x 13)]) ⟨λ_ _ _ k h=>h.ext k,λ_ _ _ k h=>h.ext k,λ_ _ _ k h=>h.ext k,G⟩ (λx=>⟨by intro u J g F; exact(WA _ _ Q.a Q.d K K _ (h0.below (Ip S.E J)) (h3.below (Ip S.E J)) D D Z Z).mono λe w2 h=>by obtain⟨y,rfl,hx,hb⟩:=h; exact⟨_,I,hx.mono ((Ip S.E J)).size,hb⟩,by intro u J g F; exact(WA _ _ Q.b Q.c K K _ (h1.below (Ip S.E J)) (h2.below (Ip S.E J)) D D Z Z).mono λe w2 h=>by obtain⟨y,rfl,hx,hb⟩:=h; exact⟨_,I,hx.mono ((Ip S.E J)).size,hb⟩,by intro u J g F; obtain⟨F7,MB,-⟩:=F; exact(ah0 _ _ (Ci Q.a Q.d) (Ci Q.b Q.c) (K+K) (K+K) _ (aC.toQ F7 (ZH _ _) (Eh D aa ae)) (aC.toQ MB (ZH _ _) (Eh D ab ac)) Z Z Z Z).mono λe w2 h=>by obtain⟨y,rfl,hx,hb⟩:=h; exact⟨_,I,hx.mono ((Ip S.E J)).size,hb⟩,G⟩) λu x D F S=>?_;obtain⟨F7,MB,J,-⟩:=F;obtain⟨m,D⟩:=aC.iR J;rw[D]at S J;try rw[D]
 have TJ:=S.bx 0;refine í S 0 (off:=0) (cs:=m.cells) I λu D S=>?_;have wY:=aC.dZ J D TJ;refine ü S 0 I (v:=m.v) λS=>?_;exact⟨_,I,wY,S.E⟩
abbrev Bh(v1 v2:y9)(P Q:Q6)(K:Nat)(w:E5)(J:nC K w v1 P)(hq:nC K w v2 Q)(D:1<=K)(hK:K<=10000) :
  Nq prog 136 #[v1,v2] w (Ï w (.b (P.eq Q))):=by
 obtain⟨bc,bd,be,bg,bh,bj⟩:=J.nrm;obtain⟨bk,bm,bo,bp,bq,br⟩:=J.len D;obtain⟨bs,bt,bu,bv,bw,bz⟩:=hq.nrm;obtain⟨ca,cb,cc,cd,ce,cf⟩:=hq.len D;obtain⟨t,rfl,-⟩:=J.sQ;obtain⟨s,rfl,-⟩:=hq.sQ;refine Ä func136 ntmps136 λS=>Â S λu b2 E3 cg S=>Â S λu b5 E6 ci S=>?_;have ai:=λp J=>(S.own p J).1.1;have kS:=S.E.size;refine WZ S Tryz.f136 1 λS id=>ſ X<|apl [(4,5),(5,6)] S 6 [(10,λv w1=>uj w.heap.size w1 v P),(12,λv w1=>uj w.heap.size w1 v Q),(5,iC u.heap.size Sx.za none),(6,iC u.heap.size Sx.za none)] (λr=>[.M 1 0,.M 0 0,.new 5 Sx.za none r,.new 6 Sx.za none r]) (λx=>[x 10,x 12,x 5,x 6]) (λx=>[(_,_,true,x 10,10),(_,_,true,x 12,12)]) [[],[]] (λx=>[(5,x 5),(6,x 6),(10,x 10),(12,x 12)]) ⟨λ_ _ _ k h=>eF.uX h k,λ_ _ _ k h=>eF.uX h k,iC.mono,iC.mono,G⟩ (λx=>⟨by intro u hC g F; exact(Fz _ P K _ (J.iT (Ip S.E hC)) Z).mono λe w2 h=>by obtain⟨x,rfl,hx,hb⟩:=h; exact⟨_,I,hx.alT ((Ip S.E hC)).size,hb⟩,by intro u hC g F; exact(Fz _ Q K _ (hq.iT (Ip S.E hC)) Z).mono λe w2 h=>by obtain⟨x,rfl,hx,hb⟩:=h; exact⟨_,I,hx.alT ((Ip S.E hC)).size,hb⟩,G⟩) (hN:=λr=>⟨⟨I,I⟩,⟨I,I⟩,G⟩) (hk:=λr=>⟨G,G,G⟩) (hA:=⟨⟨_,_,_,I,I,I,I,I⟩,⟨_,_,_,I,I,I,I,I⟩,G⟩) λac u x E9 F AP S=>Um S λS=>?_;obtain⟨av,MB,F5,F6,-⟩:=F;obtain⟨m,em,-⟩:=av.sT;rw[em]at S av;try rw[em]
 obtain⟨n,em,-⟩:=MB.sT;rw[em]at S MB;try rw[em]
 obtain⟨b10,F5,Ji,TJ⟩:=F5;rw[F5]at S;try rw[F5]
 have S:=S.adopt (A:=Sx.za) TJ Z (λp J=>by have:=ai p J; omega) (λm hm=>by cases hm);obtain⟨c0,F6,da,Me⟩:=F6;rw[F6]at S;try rw[F6]
 have S:=S.adopt (A:=Sx.za) Me Z (λp J=>by exact(Ù.1 J).elim (λe e2=>AP (4,5) Y (5,6) Y O (F5.trans ((Ñ (Ρ none) ((Ñ Prod.fst e).symm.trans e2)).trans F6.symm))) (λJ=>by have:=ai p J; omega)) (λm hm=>by cases hm);have a8:=S.bx 1;refine É S 1 I λu J S=>?_;have J5:=eF.dZ av J a8;have pY:=eF.dZ MB J a8;have J:=S.bx 0;refine É S 0 I λu yY S=>?_;have Ag:=eF.dZ J5 yY J;have JL:=eF.dZ pY yY J;refine O1 S 2 [] [.M 1 0] λS=>Š S 6 λS=>ã S λS=>Â S λu cj J ck S=>É S 0 I λu P6 S=>?_;have Tt:=È J P6;have MC:=È J P6;refine ć S 6 [.M 0 0,.M 1 0] [(_,_,true,.i (nD P.a Q.a))] [(23,.b (((nD P.a Q.a)) != 0))] ⟨λu hC g=>mV _ _ P.a Q.a K K _ (aC.toQ (Ag.uX (Ip Tt hC)).pa bc bk) (aC.toQ (JL.uX (Ip MC hC)).pa bs ca) D D Z Z,G⟩ λu GK S=>À S (((nD P.a Q.a)) != 0) (λJ S=>?_) λJ S=>?_
 .have g0:qB P.a Q.a=false:=PK J;refine Xe S (.z) λS=>?_;exact⟨by rw[show P.eq Q=false from by simp[Q6.eq,g0]],S.E⟩
 refine ã S λS=>Â S λu cm aw cn S=>É S 0 I λu ax S=>?_;have S:=S.fl;have TD:=È (Ip Tt (Ip GK aw)) ax (by have:=(Ip Tt GK).size; omega);have al:=È (Ip MC (Ip GK aw)) ax (by have:=(Ip MC GK).size; omega);refine ć S 6 [.M 0 0,.M 2 4] [(_,_,true,.i (nD P.b Q.b))] [(23,.b (((nD P.b Q.b)) != 0))] ⟨λu hC g=>mV _ _ P.b Q.b K K _ (aC.toQ (Ag.uX (Ip TD hC)).pb bd bm) (aC.toQ (JL.uX (Ip al hC)).pb bt cb) D D Z Z,G⟩ λu ab S=>À S (((nD P.b Q.b)) != 0) (λtN S=>?_) λtN S=>?_
 .have g0:qB P.a Q.a=true:=jK J;have g1:qB P.b Q.b=false:=PK tN;refine Xe S (.z) λS=>?_;exact⟨by rw[show P.eq Q=false from by simp[Q6.eq,g0,g1]],S.E⟩
 refine ã S λS=>Â S λu co X3 cq S=>É S 0 I λu ay S=>?_;have am:=È (Ip TD (Ip ab X3)) ay (by have:=(Ip TD ab).size; omega);have an:=È (Ip al (Ip ab X3)) ay (by have:=(Ip al ab).size; omega);refine ć S 6 [.M 0 0,.M 3 8] [(_,_,true,.i (nD P.c Q.c))] [(23,.b (((nD P.c Q.c)) != 0))] ⟨λu hC g=>mV _ _ P.c Q.c K K _ (aC.toQ (Ag.uX (Ip am hC)).pc be bo) (aC.toQ (JL.uX (Ip an hC)).pc bu cc) D D Z Z,G⟩ λu ae S=>À S (((nD P.c Q.c)) != 0) (λaa S=>?_) λaa S=>?_
 .have g0:qB P.a Q.a=true:=jK J;have g1:qB P.b Q.b=true:=jK tN;have g2:qB P.c Q.c=false:=PK aa;refine Xe S (.z) λS=>?_;exact⟨by rw[show P.eq Q=false from by simp[Q6.eq,g0,g1,g2]],S.E⟩
 refine ã S λS=>Â S λu ct az cu S=>É S 0 I λu a3 S=>?_;have ao:=È (Ip am (Ip ae az)) a3 (by have:=(Ip am ae).size; omega);have ap:=È (Ip an (Ip ae az)) a3 (by have:=(Ip an ae).size; omega);refine ć S 6 [.M 0 0,.M 4 12] [(_,_,true,.i (nD P.d Q.d))] [(23,.b (((nD P.d Q.d)) != 0))] ⟨λu hC g=>mV _ _ P.d Q.d K K _ (aC.toQ (Ag.uX (Ip ao hC)).pd bg bp) (aC.toQ (JL.uX (Ip ap hC)).pd bv cd) D D Z Z,G⟩ λu af S=>À S (((nD P.d Q.d)) != 0) (λRq S=>?_) λRq S=>?_
 .have g0:qB P.a Q.a=true:=jK J;have g1:qB P.b Q.b=true:=jK tN;have g2:qB P.c Q.c=true:=jK aa;have g3:qB P.d Q.d=false:=PK Rq;refine Xe S (.z) λS=>?_;exact⟨by rw[show P.eq Q=false from by simp[Q6.eq,g0,g1,g2,g3]],S.E⟩
 refine ã S λS=>Â S λu cv a4 cw S=>É S 0 I λu a5 S=>?_;have aq:=È (Ip ao (Ip af a4)) a5 (by have:=(Ip ao af).size; omega);have ar:=È (Ip ap (Ip af a4)) a5 (by have:=(Ip ap af).size; omega);refine ć S 6 [.M 0 0,.M 5 16] [(_,_,true,.i (nD P.e Q.e))] [(23,.b (((nD P.e Q.e)) != 0))] ⟨λu hC g=>mV _ _ P.e Q.e K K _ (aC.toQ (Ag.uX (Ip aq hC)).pe bh bq) (aC.toQ (JL.uX (Ip ar hC)).pe bw ce) D D Z Z,G⟩ λu ag S=>À S (((nD P.e Q.e)) != 0) (λah S=>?_) λah S=>?_
 .have g0:qB P.a Q.a=true:=jK J;have g1:qB P.b Q.b=true:=jK tN;have g2:qB P.c Q.c=true:=jK aa;have g3:qB P.d Q.d=true:=jK Rq;have g4:qB P.e Q.e=false:=PK ah;refine Xe S (.z) λS=>?_;exact⟨by rw[show P.eq Q=false from by simp[Q6.eq,g0,g1,g2,g3,g4]],S.E⟩
 refine ã S λS=>Â S λu cx a6 cy S=>É S 0 I λu a7 S=>?_;have S:=S.fl;have a9:=È (Ip aq (Ip ag a6)) a7 (by have:=(Ip aq ag).size; omega);have bb:=È (Ip ar (Ip ag a6)) a7 (by have:=(Ip ar ag).size; omega);refine ć S 6 [.M 0 0,.M 6 20] [(_,_,true,.i (nD P.f Q.f))] [(23,.b (((nD P.f Q.f)) != 0))] ⟨λu hC g=>mV _ _ P.f Q.f K K _ (aC.toQ (Ag.uX (Ip a9 hC)).pf bj br) (aC.toQ (JL.uX (Ip bb hC)).pf bz cf) D D Z Z,G⟩ λu cz S=>À S (((nD P.f Q.f)) != 0) (λD S=>?_) λD S=>?_
 .have g0:qB P.a Q.a=true:=jK J;have g1:qB P.b Q.b=true:=jK tN;have g2:qB P.c Q.c=true:=jK aa;have g3:qB P.d Q.d=true:=jK Rq;have g4:qB P.e Q.e=true:=jK ah;have g5:qB P.f Q.f=false:=PK D;refine Xe S (.z) λS=>?_;exact⟨by rw[show P.eq Q=false from by simp[Q6.eq,g0,g1,g2,g3,g4,g5]],S.E⟩
 refine ă S λS=>?_;have g0:qB P.a Q.a=true:=jK J;have g1:qB P.b Q.b=true:=jK tN;have g2:qB P.c Q.c=true:=jK aa;have g3:qB P.d Q.d=true:=jK Rq;have g4:qB P.e Q.e=true:=jK ah;have g5:qB P.f Q.f=true:=jK D;refine Xe S (.b true) λS=>?_;exact⟨by rw[show P.eq Q=true from by simp[Q6.eq,g0,g1,g2,g3,g4,g5]],S.E⟩
