/- slices.Equal of the rows that nodes hold. -/
import Derived.Test.YtodpgjjgaddkeaaGreatDoorPk12
set_option maxHeartbeats 1600000
set_option maxRecDepth 100000
set_option linter.unusedVariables false
set_option linter.unusedSimpArgs false
namespace Go.Proofs.YtodpgjjgaddkeaaGreatDoor
open _root_.Go.Proofs.Tryz
open Go.RowKit
variable{α:Type}
variable{l m:List α}{w:World}{v u:Value}{k:Nat}
theorem aN{a b:Bool}(h:a=b):Ending.returned (.bool a) = .returned (.bool b):=by rw[h]
theorem mP [DecidableEq α](h:((l.length:Int) != (m.length:Int))=true):false=decide (l=m):=by
 have h1:l≠m:=λe=>by subst e; simp at h
 simp[h1]
theorem lN(h:((l.length:Int) != (m.length:Int))=false):l.length=m.length:=by simp at h; omega
theorem qX [DecidableEq α](hk:l.length<=k)(h:l.length=m.length)(hR:l.take k=m.take k):true=decide (l=m):=by
 rw[aAv hk,aAv Z]at hR; simp[hR]
theorem qW [DecidableEq α](h1:k<l.length)(h2:k<m.length)(h:l[k]≠m[k]):false=decide (l=m):=by
 have h1:l≠m:=λe=>by subst e; exact h I
 simp[h1]
theorem mQ(h1:k<l.length)(h2:k<m.length)(hR:l.take k=m.take k)(h:l[k]=m[k]):l.take (k+1)=m.take (k+1):=by
 rw[aAU h1,aAU h2,hR,h]
theorem abY{x y:dN}(h:(!((x.verb==y.verb)&&((x.a.x==y.a.x)&&((x.a.y==y.a.y)&&((x.b.x==y.b.x)&&((x.b.y==y.b.y)&&((x.c.x==y.c.x)&&(x.c.y==y.c.y))))))))=false):x=y:=by
 obtain⟨v,⟨a,b⟩,⟨c,d⟩,⟨e,f⟩⟩:=x;obtain⟨v',⟨a',b'⟩,⟨c',d'⟩,⟨e',f'⟩⟩:=y;simp at h |-; omega
theorem Gv{a b:UInt8}(h:(a.toNat:Int)=(b.toNat:Int)):a=b:=aB0.1 Z
theorem U5{x y:bD}(h:(!(((x.r.toNat:Int)==y.r.toNat)&&(((x.g.toNat:Int)==y.g.toNat)&&(((x.b.toNat:Int)==y.b.toNat)&&((x.a.toNat:Int)==y.a.toNat)))))=false):x=y:=by
 obtain⟨a,b,c,d⟩:=x;obtain⟨a',b',c',d'⟩:=y;simp only[aBg,az7,az4]at h;rw[Gv h.1,Gv h.2.1,Gv h.2.2.1,Gv h.2.2.2]
theorem X3{x y:dK}(h:(!((x.o==y.o)&&(((x.c.r.toNat:Int)==y.c.r.toNat)&&(((x.c.g.toNat:Int)==y.c.g.toNat)&&(((x.c.b.toNat:Int)==y.c.b.toNat)&&((x.c.a.toNat:Int)==y.c.a.toNat))))))=false):x=y:=by
 obtain⟨o,c⟩:=x;obtain⟨o',c'⟩:=y;simp only[aBg,az7,az4]at h;have:c=c':=U5 (by simp only[aBg,az7,az4]; exact h.2);rw[h.1,this]
theorem ab5{x y:Int}(h:(x != y)=false):x=y:=by simpa using h
theorem ZG{l m:List dN}(h:aJ 7 dN.cells w v l)(h':aJ 7 dN.cells w u m) :
  Calls prog 182 #[v,u] w λe w'=>e = .returned (.bool (l=m))∧Ext w w':=by
 obtain⟨a,cap,rfl⟩:=h.shape;obtain⟨d,cap',rfl⟩:=h'.shape;have hmax:l.length<=9223372036854775807:=h.len;refine azp func182 ntmps182 λS=>azm S (((l.length:Int)) != (m.length:Int)) (λhc4 S=>?_) (λhc4 S=>?_)
 .refine apB S (.z) (λS=>?_);exact⟨aN (mP hc4),S.E⟩
 refine azI S (ι:=Nat) (λp a' w'=>p<=l.length∧(l.take p=m.take p)∧Sx.St w a' w' 26 [(0,.slice a l.length cap),(1,.slice d m.length cap'),(4,.z),(12,.i l.length),(13,.i p)] [] []) (λp=>l.length-p) (0) (λS=>⟨azZ _,I,S.qM⟩) ?_;rintro k ac u gQ eu hI;try dsimp only at hI
 obtain⟨hk,hR,S⟩:=hI;refine azJ S λS=>azm S (decide ((k:Int)<(l.length:Int))) (λfG S=>?_) (λfG S=>?_)
 .have uw:k<l.length:=by have:=az9 fG; omega
  obtain⟨b15,o16,rfl,x21,Gw,U6,NC⟩:=aAo h (λ_=>I) (k) uw;have S:=S.view0 U6 NC;have uy:k<m.length:=by have:=lN hc4; have:=az9 fG; omega
  obtain⟨b23,o24,rfl,y29,hx27,Qs,U7⟩:=aAo h' (λ_=>I) (k) uy;have S:=S.view0 Qs U7;refine azD S 9 [.idx k l.length,.mem 1 0,.idx k m.length,.mem 0 0,.cmp .neq 163 (.tmp 19) (.tmp 23) (.agg #[.i x21.verb,.i x21.a.x,.i x21.a.y,.i x21.b.x,.i x21.b.y,.i x21.c.x,.i x21.c.y]) (.agg #[.i y29.verb,.i y29.a.x,.i y29.a.y,.i y29.b.x,.i y29.b.y,.i y29.c.x,.i y29.c.y]) (.bool (!((x21.verb==y29.verb)&&((x21.a.x==y29.a.x)&&((x21.a.y==y29.a.y)&&((x21.b.x==y29.b.x)&&((x21.b.y==y29.b.y)&&((x21.c.x==y29.c.x)&&(x21.c.y==y29.c.y)))))))))] [] [(24,.bool (!((x21.verb==y29.verb)&&((x21.a.x==y29.a.x)&&((x21.a.y==y29.a.y)&&((x21.b.x==y29.b.x)&&((x21.b.y==y29.b.y)&&((x21.c.x==y29.c.x)&&(x21.c.y==y29.c.y)))))))))] trivial (hk:=⟨uw,uy,aAP (λ_=>ah9 ..) X,G⟩) λu yV S=>azm S (!((x21.verb==y29.verb)&&((x21.a.x==y29.a.x)&&((x21.a.y==y29.a.y)&&((x21.b.x==y29.b.x)&&((x21.b.y==y29.b.y)&&((x21.c.x==y29.c.x)&&(x21.c.y==y29.c.y)))))))) (λhc31 S=>?_) (λhc31 S=>?_)
  .refine apB S (.z) (λS=>?_);exact⟨aN (qW uw uy (λe=>by have hq:=hc31; rw[Gw,hx27]at e; subst e; simp at hq)),S.E⟩
  refine adr S 2 [] [.re 25 (.i (IntKind.i64.wrap ((k:Int)+1))) (.i (k+1:Nat))] (hk:=⟨azA Z,G⟩) λS=>azG S gQ (λS=>?_);exact eu _ _ (k+1) ⟨Z,(mQ uw uy hR (by rw[Gw,hx27]; exact abY hc31)),S.qM⟩ (by show _-_<_-_; omega)
 refine apB S (.bool true) (λS=>?_);exact⟨aN (qX (by have:=aAd fG; omega) (lN hc4) hR),S.E⟩
theorem U8{l m:List dK}(h:aJ 5 dK.cells w v l)(h':aJ 5 dK.cells w u m) :
  Calls prog 183 #[v,u] w λe w'=>e = .returned (.bool (l=m))∧Ext w w':=by
 obtain⟨a,cap,rfl⟩:=h.shape;obtain⟨d,cap',rfl⟩:=h'.shape;have hmax:l.length<=9223372036854775807:=h.len;refine azp func183 ntmps183 λS=>azm S (((l.length:Int)) != (m.length:Int)) (λhc4 S=>?_) (λhc4 S=>?_)
 .refine apB S (.z) (λS=>?_);exact⟨aN (mP hc4),S.E⟩
 refine azI S (ι:=Nat) (λp a' w'=>p<=l.length∧(l.take p=m.take p)∧Sx.St w a' w' 26 [(0,.slice a l.length cap),(1,.slice d m.length cap'),(4,.z),(12,.i l.length),(13,.i p)] [] []) (λp=>l.length-p) (0) (λS=>⟨azZ _,I,S.qM⟩) ?_;rintro k ac u gQ eu hI;try dsimp only at hI
 obtain⟨hk,hR,S⟩:=hI;refine azJ S λS=>azm S (decide ((k:Int)<(l.length:Int))) (λfG S=>?_) (λfG S=>?_)
 .have uw:k<l.length:=by have:=az9 fG; omega
  obtain⟨b15,o16,rfl,x21,Gw,U6,NC⟩:=aAo h (λ_=>I) (k) uw;have S:=S.view0 U6 NC;have uy:k<m.length:=by have:=lN hc4; have:=az9 fG; omega
  obtain⟨b23,o24,rfl,y29,hx27,Qs,U7⟩:=aAo h' (λ_=>I) (k) uy;have S:=S.view0 Qs U7;refine azD S 9 [.idx k l.length,.mem 1 0,.idx k m.length,.mem 0 0,.cmp .neq 202 (.tmp 19) (.tmp 23) (.agg #[.i x21.o,.u (x21.c.r.toNat:Int),.u (x21.c.g.toNat:Int),.u (x21.c.b.toNat:Int),.u (x21.c.a.toNat:Int)]) (.agg #[.i y29.o,.u (y29.c.r.toNat:Int),.u (y29.c.g.toNat:Int),.u (y29.c.b.toNat:Int),.u (y29.c.a.toNat:Int)]) (.bool (!((x21.o==y29.o)&&(((x21.c.r.toNat:Int)==(y29.c.r.toNat:Int))&&(((x21.c.g.toNat:Int)==(y29.c.g.toNat:Int))&&(((x21.c.b.toNat:Int)==(y29.c.b.toNat:Int))&&((x21.c.a.toNat:Int)==(y29.c.a.toNat:Int))))))))] [] [(24,.bool (!((x21.o==y29.o)&&(((x21.c.r.toNat:Int)==(y29.c.r.toNat:Int))&&(((x21.c.g.toNat:Int)==(y29.c.g.toNat:Int))&&(((x21.c.b.toNat:Int)==(y29.c.b.toNat:Int))&&((x21.c.a.toNat:Int)==(y29.c.a.toNat:Int))))))))] trivial (hk:=⟨uw,uy,aAP (λ_=>abZ ..) X,G⟩) λu yV S=>azm S (!((x21.o==y29.o)&&(((x21.c.r.toNat:Int)==(y29.c.r.toNat:Int))&&(((x21.c.g.toNat:Int)==(y29.c.g.toNat:Int))&&(((x21.c.b.toNat:Int)==(y29.c.b.toNat:Int))&&((x21.c.a.toNat:Int)==(y29.c.a.toNat:Int))))))) (λhc31 S=>?_) (λhc31 S=>?_)
  .refine apB S (.z) (λS=>?_);exact⟨aN (qW uw uy (λe=>by have hq:=hc31; rw[Gw,hx27]at e; subst e; simp at hq)),S.E⟩
  refine adr S 2 [] [.re 25 (.i (IntKind.i64.wrap ((k:Int)+1))) (.i (k+1:Nat))] (hk:=⟨azA Z,G⟩) λS=>azG S gQ (λS=>?_);exact eu _ _ (k+1) ⟨Z,(mQ uw uy hR (by rw[Gw,hx27]; exact X3 hc31)),S.qM⟩ (by show _-_<_-_; omega)
 refine apB S (.bool true) (λS=>?_);exact⟨aN (qX (by have:=aAd fG; omega) (lN hc4) hR),S.E⟩
theorem ZH{l m:List bD}(h:aJ 4 bD.cells w v l)(h':aJ 4 bD.cells w u m) :
  Calls prog 185 #[v,u] w λe w'=>e = .returned (.bool (l=m))∧Ext w w':=by
 obtain⟨a,cap,rfl⟩:=h.shape;obtain⟨d,cap',rfl⟩:=h'.shape;have hmax:l.length<=9223372036854775807:=h.len;refine azp func185 ntmps185 λS=>azm S (((l.length:Int)) != (m.length:Int)) (λhc4 S=>?_) (λhc4 S=>?_)
 .refine apB S (.z) (λS=>?_);exact⟨aN (mP hc4),S.E⟩
 refine azI S (ι:=Nat) (λp a' w'=>p<=l.length∧(l.take p=m.take p)∧Sx.St w a' w' 26 [(0,.slice a l.length cap),(1,.slice d m.length cap'),(4,.z),(12,.i l.length),(13,.i p)] [] []) (λp=>l.length-p) (0) (λS=>⟨azZ _,I,S.qM⟩) ?_;rintro k ac u gQ eu hI;try dsimp only at hI
 obtain⟨hk,hR,S⟩:=hI;refine azJ S λS=>azm S (decide ((k:Int)<(l.length:Int))) (λfG S=>?_) (λfG S=>?_)
 .have uw:k<l.length:=by have:=az9 fG; omega
  obtain⟨b15,o16,rfl,x21,Gw,U6,NC⟩:=aAo h (λ_=>I) (k) uw;have S:=S.view0 U6 NC;have uy:k<m.length:=by have:=lN hc4; have:=az9 fG; omega
  obtain⟨b23,o24,rfl,y29,hx27,Qs,U7⟩:=aAo h' (λ_=>I) (k) uy;have S:=S.view0 Qs U7;refine azD S 9 [.idx k l.length,.mem 1 0,.idx k m.length,.mem 0 0,.cmp .neq 178 (.tmp 19) (.tmp 23) (.agg #[.u (x21.r.toNat:Int),.u (x21.g.toNat:Int),.u (x21.b.toNat:Int),.u (x21.a.toNat:Int)]) (.agg #[.u (y29.r.toNat:Int),.u (y29.g.toNat:Int),.u (y29.b.toNat:Int),.u (y29.a.toNat:Int)]) (.bool (!(((x21.r.toNat:Int)==(y29.r.toNat:Int))&&(((x21.g.toNat:Int)==(y29.g.toNat:Int))&&(((x21.b.toNat:Int)==(y29.b.toNat:Int))&&((x21.a.toNat:Int)==(y29.a.toNat:Int)))))))] [] [(24,.bool (!(((x21.r.toNat:Int)==(y29.r.toNat:Int))&&(((x21.g.toNat:Int)==(y29.g.toNat:Int))&&(((x21.b.toNat:Int)==(y29.b.toNat:Int))&&((x21.a.toNat:Int)==(y29.a.toNat:Int)))))))] trivial (hk:=⟨uw,uy,aAP (λ_=>aia ..) X,G⟩) λu yV S=>azm S (!(((x21.r.toNat:Int)==(y29.r.toNat:Int))&&(((x21.g.toNat:Int)==(y29.g.toNat:Int))&&(((x21.b.toNat:Int)==(y29.b.toNat:Int))&&((x21.a.toNat:Int)==(y29.a.toNat:Int)))))) (λhc31 S=>?_) (λhc31 S=>?_)
  .refine apB S (.z) (λS=>?_);exact⟨aN (qW uw uy (λe=>by have hq:=hc31; rw[Gw,hx27]at e; subst e; simp at hq)),S.E⟩
  refine adr S 2 [] [.re 25 (.i (IntKind.i64.wrap ((k:Int)+1))) (.i (k+1:Nat))] (hk:=⟨azA Z,G⟩) λS=>azG S gQ (λS=>?_);exact eu _ _ (k+1) ⟨Z,(mQ uw uy hR (by rw[Gw,hx27]; exact U5 hc31)),S.qM⟩ (by show _-_<_-_; omega)
 refine apB S (.bool true) (λS=>?_);exact⟨aN (qX (by have:=aAd fG; omega) (lN hc4) hR),S.E⟩
theorem ZI{l m:List Int}(h:aJ 1 (λx=>[Bh x]) w v l)(h':aJ 1 (λx=>[Bh x]) w u m) :
  Calls prog 184 #[v,u] w λe w'=>e = .returned (.bool (l=m))∧Ext w w':=by
 obtain⟨a,cap,rfl⟩:=h.shape;obtain⟨d,cap',rfl⟩:=h'.shape;have hmax:l.length<=9223372036854775807:=h.len;refine azp func184 ntmps184 λS=>azm S (((l.length:Int)) != (m.length:Int)) (λhc4 S=>?_) (λhc4 S=>?_)
 .refine apB S (.z) (λS=>?_);exact⟨aN (mP hc4),S.E⟩
 refine azI S (ι:=Nat) (λp a' w'=>p<=l.length∧(l.take p=m.take p)∧Sx.St w a' w' 26 [(0,.slice a l.length cap),(1,.slice d m.length cap'),(4,.z),(12,.i l.length),(13,.i p)] [] []) (λp=>l.length-p) (0) (λS=>⟨azZ _,I,S.qM⟩) ?_;rintro k ac u gQ eu hI;try dsimp only at hI
 obtain⟨hk,hR,S⟩:=hI;refine azJ S λS=>azm S (decide ((k:Int)<(l.length:Int))) (λfG S=>?_) (λfG S=>?_)
 .have uw:k<l.length:=by have:=az9 fG; omega
  obtain⟨b15,o16,rfl,x21,Gw,U6,NC⟩:=aAo h (λ_=>I) (k) uw;have S:=S.view0 U6 NC;have uy:k<m.length:=by have:=lN hc4; have:=az9 fG; omega
  obtain⟨b23,o24,rfl,y29,hx27,Qs,U7⟩:=aAo h' (λ_=>I) (k) uy;have S:=S.view0 Qs U7;refine azD S 9 [.idx k l.length,.mem 1 0,.idx k m.length,.mem 0 0] [] [(24,.bool ((x21) != y29))] trivial (hk:=⟨uw,uy,G⟩) λu yV S=>azm S ((x21) != y29) (λhc31 S=>?_) (λhc31 S=>?_)
  .refine apB S (.z) (λS=>?_);exact⟨aN (qW uw uy (λe=>by have hq:=hc31; rw[Gw,hx27]at e; subst e; simp at hq)),S.E⟩
  refine adr S 2 [] [.re 25 (.i (IntKind.i64.wrap ((k:Int)+1))) (.i (k+1:Nat))] (hk:=⟨azA Z,G⟩) λS=>azG S gQ (λS=>?_);exact eu _ _ (k+1) ⟨Z,(mQ uw uy hR (by rw[Gw,hx27]; exact ab5 hc31)),S.qM⟩ (by show _-_<_-_; omega)
 refine apB S (.bool true) (λS=>?_);exact⟨aN (qX (by have:=aAd fG; omega) (lN hc4) hR),S.E⟩
open Go.RowKit
variable{α:Type}
variable{w:World}{k b:Nat}{m n:dF}{l:List dK}{p:α->Bool}{last:Int}{v:Value}
theorem ZJ(p:bD):(((min (p.r.toNat:Int) (p.a.toNat:Int))==(p.r.toNat:Int))&&(((min (p.g.toNat:Int) (p.a.toNat:Int))==(p.g.toNat:Int))&&(((min (p.b.toNat:Int) (p.a.toNat:Int))==(p.b.toNat:Int))&&((min (p.a.toNat:Int) (p.a.toNat:Int))==(p.a.toNat:Int)))))=p.valid:=by
 have h:∀x y:UInt8,((min (x.toNat:Int) (y.toNat:Int))==(x.toNat:Int))=decide (x<=y):=by
  intro x y; rw[aA9]; simp only[az4,az6,UInt8.le_iff_toNat_le]; omega
 rw[h,h,h,h]; unfold bD.valid; simp
theorem Eb{l:List α}(hk:l.length<=k)(h:(l.take k).all p=true):l.all p=true:=by rwa [aAv hk]at h
theorem ND{l:List α}(hk:k<l.length)(h:p l[k]=false):l.all p=false:=by
 rw[List.all_eq_false]; exact⟨l[k],aAl hk,by simp[h]⟩
theorem yX{l:List α}(hk:k<l.length)(hR:(l.take k).all p=true)(h:p l[k]=true):(l.take (k+1)).all p=true:=by
 rw[aAU hk,List.all_append,hR]; simp[h]
theorem ZK{a b:Int}(ha:side a=true)(hb:side b=true):IntKind.i64.wrap (a*b)=a*b:=by
 simp only[side,az7,az6]at ha hb;have h1:a*b<=4096*4096:=Int.le_trans (Int.mul_le_mul_of_nonneg_right ha.2 Z) (Int.mul_le_mul_of_nonneg_left hb.2 Z);have h0:0<=a*b:=Int.mul_nonneg Z Z;rw[aBv]; omega
theorem Qu:((((!(side m.w))||(!(side m.h)))||(decide (65536<IntKind.i64.wrap (m.w*m.h))))||((m.l.length:Int) != IntKind.i64.wrap (m.w*m.h)))=((((!(side m.w))||(!(side m.h)))||(decide (65536<(m.w*m.h))))||((m.l.length:Int) != (m.w*m.h))):=by
 cases ha:side m.w<;>cases hb:side m.h<;>simp only[Bool.not_false,Bool.not_true,Bool.true_or,Bool.false_or,Bool.or_true];rw[ZK ha hb]
theorem aji(h:((((!(side m.w))||(!(side m.h)))||(decide (65536<(m.w*m.h))))||((m.l.length:Int) != (m.w*m.h)))=true):false=m.valid:=by
 unfold dF.valid dF.size;revert h;cases side m.w<;>cases side m.h<;>simp;intro h h1 h2; omega
theorem afU(h:((((!(side m.w))||(!(side m.h)))||(decide (65536<(m.w*m.h))))||((m.l.length:Int) != (m.w*m.h)))=false):(!(!(m.l.all bD.valid)))=m.valid:=by
 unfold dF.valid dF.size;revert h;cases side m.w<;>cases side m.h<;>simp;intro h h1; rw[h1]; simp[h]
theorem ajj:((m.w==n.w)&&(m.h==n.h)&&decide (m.l=n.l))=m.eq n:=by
 unfold dF.eq;rw[Bool.and_assoc];by_cases h:m.l=n.l<;>simp[h]
theorem ZL(h:((decide ((l.length:Int)<1))||(decide (16<(l.length:Int))))=true):false=iC l:=by
 unfold iC;simp only[aBy,az6]at h;rcases h with h | h
 .rw[aBp Z]; rfl
 rw[aBp (p:=l.length<=16) Z]; simp
theorem Qv(h:((decide ((l.length:Int)<1))||(decide (16<(l.length:Int))))=false):iC l=gY 0 l:=by
 unfold iC;simp only[aAI,aAt]at h;rw[aA6 (p:=1<=l.length) Z,aA6 (p:=l.length<=16) Z]; rfl
theorem ZM(h:((decide ((l.length:Int)<1))||(decide (16<(l.length:Int))))=false)(hk:l.length<=k)(hR:gY 0 l=gY last (l.drop k)):true=iC l:=by
 rw[Qv h,hR,aA7 hk]; rfl
theorem ZN(h:((decide ((l.length:Int)<1))||(decide (16<(l.length:Int))))=false)(hk:k<l.length)(hR:gY 0 l=gY last (l.drop k))(hb:((decide (l[k].o<last))||(decide (65536<l[k].o)))=true):false=iC l:=by
 rw[Qv h,hR,aAZ hk,gY];simp only[aBy,az6]at hb;rcases hb with hb | hb
 .rw[aBp Z]; rfl
 rw[aBp (p:=l[k].o<=65536) Z]; simp
theorem U9(hk:k<l.length)(hR:gY 0 l=gY last (l.drop k))(hb:((decide (l[k].o<last))||(decide (65536<l[k].o)))=false):gY 0 l=gY l[k].o (l.drop (k+1)):=by
 rw[hR,aAZ hk,gY];simp only[aAI,aAt]at hb;rw[aA6 (p:=last<=l[k].o) Z,aA6 (p:=l[k].o<=65536) Z]; rfl
theorem uz(p:bD)(x:Int)(hx:Bx w b #[.u (p.r.toNat:Int),.u (p.g.toNat:Int),.u (p.b.toNat:Int),.u (p.a.toNat:Int)]) :
  Calls prog 307 #[.u x,.q b 0] w λe w'=>e = .returned (.u (min x (p.a.toNat:Int)))∧w=w':=by
 skip;refine azp func307 ntmps307 (λS=>?_);have S:=S.view0 hx.1 (hx.range 0 4 I);refine adr S 6 [] [.mem 0 3,.re 7 (.u (if (p.a.toNat:Int)<x then (p.a.toNat:Int)else x)) (.u (min x (p.a.toNat:Int)))] (hk:=⟨Sx.ajk,G⟩) λS=>apB S (.u (min x (p.a.toNat:Int))) (λS=>?_);exact⟨I,I⟩
theorem ab9(p:bD)(hx:Bx w b #[.u (p.r.toNat:Int),.u (p.g.toNat:Int),.u (p.b.toNat:Int),.u (p.a.toNat:Int)]) :
  Calls prog 306 #[.agg #[.u (p.r.toNat:Int),.u (p.g.toNat:Int),.u (p.b.toNat:Int),.u (p.a.toNat:Int)],.func (.func 307) #[] #[.q b 0]] w λe w'=>e = .returned (.agg #[.u (min (p.r.toNat:Int) (p.a.toNat:Int)),.u (min (p.g.toNat:Int) (p.a.toNat:Int)),.u (min (p.b.toNat:Int) (p.a.toNat:Int)),.u (min (p.a.toNat:Int) (p.a.toNat:Int))])∧Ext w w':=by
 skip;refine azp func306 ntmps306 (λS=>?_);have S:=S.view0 hx.1 (hx.range 0 4 I);refine azo S λu b2 E3 hb4 S=>azo S λu b5 E6 hb7 S=>azD S 17 [.mem 1 0,.mem 1 1,.mem 1 2,.mem 1 3] [(_,_,true,.u (min (p.r.toNat:Int) (p.a.toNat:Int))),(_,_,true,.u (min (p.g.toNat:Int) (p.a.toNat:Int))),(_,_,true,.u (min (p.b.toNat:Int) (p.a.toNat:Int))),(_,_,true,.u (min (p.a.toNat:Int) (p.a.toNat:Int)))] [(21,.agg #[.u (min (p.r.toNat:Int) (p.a.toNat:Int)),.u (min (p.g.toNat:Int) (p.a.toNat:Int)),.u (min (p.b.toNat:Int) (p.a.toNat:Int)),.u (min (p.a.toNat:Int) (p.a.toNat:Int))])] ⟨λu hC g=>azL (uz p (p.r.toNat:Int) (hx.ext (K00 S.E hC))),λu hC g=>azL (uz p (p.g.toNat:Int) (hx.ext (K00 S.E hC))),λu hC g=>azL (uz p (p.b.toNat:Int) (hx.ext (K00 S.E hC))),λu hC g=>azL (uz p (p.a.toNat:Int) (hx.ext (K00 S.E hC))),G⟩ λu E9 S=>azq S 0 I λu C10 S=>azC S 0 I (v := .agg #[.u (min (p.r.toNat:Int) (p.a.toNat:Int)),.u (min (p.g.toNat:Int) (p.a.toNat:Int)),.u (min (p.b.toNat:Int) (p.a.toNat:Int)),.u (min (p.a.toNat:Int) (p.a.toNat:Int))]) (λS=>?_);exact⟨I,S.E⟩
theorem Va(p:bD)(w:World) :
  Calls prog 277 #[.agg #[.u (p.r.toNat:Int),.u (p.g.toNat:Int),.u (p.b.toNat:Int),.u (p.a.toNat:Int)]] w λe w'=>e = .returned (.agg #[.u (min (p.r.toNat:Int) (p.a.toNat:Int)),.u (min (p.g.toNat:Int) (p.a.toNat:Int)),.u (min (p.b.toNat:Int) (p.a.toNat:Int)),.u (min (p.a.toNat:Int) (p.a.toNat:Int))])∧Ext w w':=by
 skip;refine azp func277 ntmps277 λS=>azo S λu b2 E3 hb4 S=>azo S λu b5 E6 hb7 S=>adr S 2 [] [.mem 1 0] λS=>azB S (ab9 p (S.kK 1)) λu E9 S=>azq S 0 I λu C10 S=>azC S 0 I (v := .agg #[.u (min (p.r.toNat:Int) (p.a.toNat:Int)),.u (min (p.g.toNat:Int) (p.a.toNat:Int)),.u (min (p.b.toNat:Int) (p.a.toNat:Int)),.u (min (p.a.toNat:Int) (p.a.toNat:Int))]) (λS=>?_);exact⟨I,S.E⟩
theorem NH(p:bD)(w:World) :
  Calls prog 237 #[.agg #[.u (p.r.toNat:Int),.u (p.g.toNat:Int),.u (p.b.toNat:Int),.u (p.a.toNat:Int)]] w λe w'=>e = .returned (.bool p.valid)∧Ext w w':=by
 skip;refine azp func237 ntmps237 λS=>azo S λu b2 E3 hb4 S=>azD S 4 [.mem 0 0,.mem 0 0,.cmp .eql 178 (.tmp 4) (.tmp 5) (.agg #[.u (min (p.r.toNat:Int) (p.a.toNat:Int)),.u (min (p.g.toNat:Int) (p.a.toNat:Int)),.u (min (p.b.toNat:Int) (p.a.toNat:Int)),.u (min (p.a.toNat:Int) (p.a.toNat:Int))]) (.agg #[.u (p.r.toNat:Int),.u (p.g.toNat:Int),.u (p.b.toNat:Int),.u (p.a.toNat:Int)]) (.bool (((min (p.r.toNat:Int) (p.a.toNat:Int))==(p.r.toNat:Int))&&(((min (p.g.toNat:Int) (p.a.toNat:Int))==(p.g.toNat:Int))&&(((min (p.b.toNat:Int) (p.a.toNat:Int))==(p.b.toNat:Int))&&((min (p.a.toNat:Int) (p.a.toNat:Int))==(p.a.toNat:Int))))))] [(_,_,true,.agg #[.u (min (p.r.toNat:Int) (p.a.toNat:Int)),.u (min (p.g.toNat:Int) (p.a.toNat:Int)),.u (min (p.b.toNat:Int) (p.a.toNat:Int)),.u (min (p.a.toNat:Int) (p.a.toNat:Int))])] [(6,.bool (((min (p.r.toNat:Int) (p.a.toNat:Int))==(p.r.toNat:Int))&&(((min (p.g.toNat:Int) (p.a.toNat:Int))==(p.g.toNat:Int))&&(((min (p.b.toNat:Int) (p.a.toNat:Int))==(p.b.toNat:Int))&&((min (p.a.toNat:Int) (p.a.toNat:Int))==(p.a.toNat:Int))))))] ⟨λu hC g=>Va p _,G⟩ (hk:=⟨aAP (λ_=>aib ..) X,G⟩) λu E6 S=>apB S (.bool (((min (p.r.toNat:Int) (p.a.toNat:Int))==(p.r.toNat:Int))&&(((min (p.g.toNat:Int) (p.a.toNat:Int))==(p.g.toNat:Int))&&(((min (p.b.toNat:Int) (p.a.toNat:Int))==(p.b.toNat:Int))&&((min (p.a.toNat:Int) (p.a.toNat:Int))==(p.a.toNat:Int)))))) (λS=>?_);exact⟨aN (ZJ p),S.E⟩
theorem Vb(p:bD)(w:World) :
  Calls prog 236 #[.agg #[.u (p.r.toNat:Int),.u (p.g.toNat:Int),.u (p.b.toNat:Int),.u (p.a.toNat:Int)]] w λe w'=>e = .returned (.bool (!p.valid))∧Ext w w':=by
 skip;refine azp func236 ntmps236 λS=>azo S λu b2 E3 hb4 S=>adr S 2 [] [.mem 0 0] λS=>azB S (NH p _) λu E6 S=>apB S (.bool (!p.valid)) (λS=>?_);exact⟨I,S.E⟩
theorem NI{l:List bD}(h:aJ 4 bD.cells w v l) :
  Calls prog 276 #[v,.func (.func 236) #[] #[]] w λe w'=>∃z,e = .returned (.i z)∧decide (0<=z) = !(l.all bD.valid)∧Ext w w':=by
 obtain⟨a,cap,rfl⟩:=h.shape;have hmax:l.length<=9223372036854775807:=h.len;refine azp func276 ntmps276 λS=>azI S (ι:=Nat) (λp a' w'=>p<=l.length∧((l.take p).all bD.valid=true)∧Sx.St w a' w' 19 [(0,.slice a l.length cap),(1,.func (.func 236) #[] #[]),(4,.i 0),(7,.i l.length),(8,.i p)] [] []) (λp=>l.length-p) (0) (λS=>⟨azZ _,I,S.qM⟩) ?_;rintro k ac u gQ eu hI;try dsimp only at hI
 obtain⟨hk,hR,S⟩:=hI;refine azJ S λS=>azm S (decide ((k:Int)<(l.length:Int))) (λhc6 S=>?_) (λhc6 S=>?_)
 .have sN:k<l.length:=by have:=az9 hc6; omega
  obtain⟨b10,o11,rfl,x16,zO,vN,NJ⟩:=aAo h (λ_=>I) (k) sN;have S:=S.view0 vN NJ;refine adr S 7 [] [.idx k l.length,.mem 0 0] (hk:=⟨sN,G⟩) λS=>azB S (Vb x16 _) λu zL S=>azm S (!x16.valid) (λhc19 S=>?_) (λhc19 S=>?_)
  .refine apB S (.i k) (λS=>?_);exact⟨_,I,by rw[ND sN (by rw[zO]; simpa using hc19)]; simp,S.E⟩
  refine adr S 2 [] [.re 18 (.i (IntKind.i64.wrap ((k:Int)+1))) (.i (k+1:Nat))] (hk:=⟨azA Z,G⟩) λS=>azG S gQ (λS=>?_);exact eu _ _ (k+1) ⟨Z,(yX sN hR (by rw[zO]; simpa using hc19)),S.qM⟩ (by show _-_<_-_; omega)
 refine apB S (.i (-1)) (λS=>?_);exact⟨_,I,by rw[Eb (by have:=aAd hc6; omega) hR]; rfl,S.E⟩
theorem Qw{l:List bD}(h:aJ 4 bD.cells w v l) :
  Calls prog 235 #[v,.func (.func 236) #[] #[]] w λe w'=>e = .returned (.bool (!(l.all bD.valid)))∧Ext w w':=by
 skip;refine azp func235 ntmps235 λS=>azz S (NI (h.below S.E)) ?_;rintro e u ⟨z,rfl,hz,E3⟩;refine⟨_,I,E3,λS=>?_⟩;refine apB S (.bool (0<=z)) (λS=>?_);exact⟨aN hz,S.E⟩
theorem Qx(n:Int)(w:World) :
  Calls prog 234 #[.i n] w λe w'=>e = .returned (.bool (side n))∧w=w':=by
 skip;refine azp func234 ntmps234 λS=>apB S (.bool ((decide (1<=n))&&(decide (n<=4096)))) (λS=>?_);exact⟨I,I⟩
theorem Bo(h:m.ok w) :
  Calls prog 195 #[m.v] w λe w'=>e = .returned (.bool m.valid)∧Ext w w':=by
 obtain⟨a,cap,hs⟩:=h.2.2.shape;unfold dF.v;have hq:=h.2.2;rw[hs];rw[hs]at hq;refine azp func195 ntmps195 λS=>azo S λu b2 E3 hb4 S=>adr S 5 [] [.mem 0 0] λS=>Sx.lQ S (Qx m.w _) λS=>aAQ S 27 [.mem 0 1,.mem 0 0,.mem 0 1,.mem 0 2,.mem 0 0,.mem 0 1] [(_,_,(!(!(side m.w))),.bool (side m.h))] [(34,.bool ((((!(side m.w))||(!(side m.h)))||(decide (65536<(IntKind.i64.wrap (m.w*m.h)))))||(((m.l.length:Int)) != (IntKind.i64.wrap (m.w*m.h)))))] ⟨λu hC g=>azL (Qx m.h _),G⟩ λu E8 S=>azm S ((((!(side m.w))||(!(side m.h)))||(decide (65536<(IntKind.i64.wrap (m.w*m.h)))))||(((m.l.length:Int)) != (IntKind.i64.wrap (m.w*m.h)))) (λJL S=>?_) (λJL S=>?_)
 .refine apB S (.z) (λS=>?_);exact⟨aN (aji (Qu▸JL)),S.E⟩
 refine adr S 2 [] [.mem 0 2] λS=>azB S (Qw (hq.below S.E)) λu pW S=>apB S (.bool (!(!(m.l.all bD.valid)))) (λS=>?_);exact⟨aN (afU (Qu▸JL)),S.E⟩
theorem uD(h:m.ok w)(h':n.ok w) :
  Calls prog 141 #[m.v,n.v] w λe w'=>e = .returned (.bool (m.eq n))∧Ext w w':=by
 skip;refine azp func141 ntmps141 λS=>azo S λu b2 E3 hb4 S=>azo S λu b5 E6 hb7 S=>adr S 1 [] [] λS=>aAQ S 20 [.mem 1 0,.mem 0 0,.mem 1 1,.mem 0 1,.mem 1 2,.mem 0 2] [(_,_,(((m.w)==n.w)&&((m.h)==n.h)),.bool (m.l=n.l))] [(4,.bool ((((m.w)==n.w)&&((m.h)==n.h))&&(decide (m.l=n.l))))] ⟨λu hC g=>ZH (h.2.2.below (K00 S.E hC)) (h'.2.2.below (K00 S.E hC)),G⟩ λu E9 S=>apB S (.bool ((((m.w)==n.w)&&((m.h)==n.h))&&(decide (m.l=n.l)))) (λS=>?_);exact⟨aN ajj,S.E⟩
theorem JU(h:aJ 5 dK.cells w v l) :
  Calls prog 331 #[v] w λe w'=>e = .returned (.bool (iC l))∧Ext w w':=by
 obtain⟨a,cap,rfl⟩:=h.shape;have hmax:l.length<=9223372036854775807:=h.len;refine azp func331 ntmps331 λS=>azm S ((decide ((l.length:Int)<1))||(decide (16<(l.length:Int)))) (λhc4 S=>?_) (λhc4 S=>?_)
 .refine apB S (.z) (λS=>?_);exact⟨aN (ZL hc4),S.E⟩
 refine azI S (ι:=Nat×Int) (λp a' w'=>p.1<=l.length∧(gY 0 l=gY p.2 (l.drop p.1))∧Sx.St w a' w' 32 [(0,.slice a l.length cap),(2,.z),(3,.i p.2),(14,.slice a l.length cap),(15,.i l.length),(16,.i p.1)] [] []) (λp=>l.length-p.1) (0,0) (λS=>⟨azZ _,I,S.qM⟩) ?_;rintro⟨k,last⟩ ac u gQ eu hI;try dsimp only at hI
 obtain⟨hk,hR,S⟩:=hI;refine azJ S λS=>azm S (decide ((k:Int)<(l.length:Int))) (λgV S=>?_) (λgV S=>?_)
 .have nX:k<l.length:=by have:=az9 gV; omega
  obtain⟨b14,o15,rfl,x20,uo,vY,Nv⟩:=aAo h (λ_=>I) (k) nX;have S:=S.view0 vY Nv;refine adr S 2 [] [.idx k l.length,.mem 0 0] (hk:=⟨nX,G⟩) λS=>azo S λu b22 E23 ajl S=>azq S 0 I λu ZO S=>adr S 9 [] [.mem 0 0,.mem 0 0] λS=>azm S ((decide (x20.o<last))||(decide (65536<x20.o))) (λhc28 S=>?_) (λhc28 S=>?_)
  .refine apB S (.z) (λS=>?_);exact⟨aN (ZN hc4 nX hR (by rw[uo]; exact hc28)),S.E⟩
  refine adr S 5 [] [.mem 0 0,.re 31 (.i (IntKind.i64.wrap ((k:Int)+1))) (.i (k+1:Nat))] (hk:=⟨azA Z,G⟩) λS=>azG S gQ (λS=>?_);exact eu _ _ ((k+1),x20.o) ⟨Z,(by rw[<-uo]; exact U9 nX hR (by rw[uo]; exact hc28)),(S.gW 1).qM⟩ (by show _-_<_-_; omega)
 refine apB S (.bool true) (λS=>?_);exact⟨aN (ZM hc4 (by have:=aAd gV; omega) hR),S.E⟩
theorem acd(n:Int)(w:World) :
  Calls prog 193 #[.i n] w λe w'=>e = .returned (.bool (decide (1<=n)&&decide (n<=13)))∧w=w':=by
 skip;refine azp func193 ntmps193 λS=>apB S (.bool ((decide (1<=n))&&(decide (n<=13)))) (λS=>?_);exact⟨I,I⟩
theorem Gx(n:Int)(w:World) :
  Calls prog 305 #[.i n] w λe w'=>e = .returned (.bool (iE n))∧w=w':=by
 skip;refine azp func305 ntmps305 λS=>apB S (.bool ((decide (1<=n))&&(decide (n<=3)))) (λS=>?_);exact⟨I,I⟩
theorem ace(n:Int)(w:World) :
  Calls prog 271 #[.i n] w λe w'=>e = .returned (.bool (decide (1<=n)&&decide (n<=16384)))∧w=w':=by
 skip;refine azp func271 ntmps271 λS=>apB S (.bool ((decide (1<=n))&&(decide (n<=16384)))) (λS=>?_);exact⟨I,I⟩
open Go.RowKit
variable{α:Type}
def pK(l s:List Int):Option Bool:=if s.all (λx=>decide (0<=x)&&decide (x<=1048576))then some (((l.length:Int)==0)||s.any (λx=>decide (0<x)))else none
def rW(l:List Int):Bool:=l.all (λx=>decide (0<=x)&&decide (x<=1048576))&&((((((l.length:Int)==0)||l.any (λx=>decide (0<x)))&&((Int.tmod (l.length:Int) 2)==0))&&(decide ((l.length:Int)<=16))))
variable{l:List Int}{w:World}{k:Nat}{any:Bool}{v:Value}
theorem ZP(l:List Int):pK l (l.take 0)=some ((l.length:Int)==0):=by simp[pK]
theorem ZQ(hk:k<l.length)(hR:pK l (l.take k)=some any)(hb:((decide (l[k]<0))||(decide (1048576<l[k])))=false):pK l (l.take (k+1))=some (any||(decide (0<l[k]))):=by
 unfold pK at hR |-;rw[aAU hk,List.all_append,List.any_append];simp only[aAI,aAt]at hb;split at hR
 .rename_i h;obtain rfl:=az1 hR;rw[h];simp[show 0<=l[k] by omega,show l[k]<=1048576 by omega,Bool.or_assoc]
 cases hR
theorem acf(hk:k<l.length)(hR:pK l (l.take k)=some any)(hb:((decide (l[k]<0))||(decide (1048576<l[k])))=true):false=rW l:=by
 simp only[aBy,az6]at hb;unfold rW;rw[ND hk (by simp; omega)]; rfl
theorem acg(hk:l.length<=k)(hR:pK l (l.take k)=some any):((any&&((Int.tmod (l.length:Int) 2)==0))&&(decide ((l.length:Int)<=16)))=rW l:=by
 unfold pK at hR;rw[aAv hk]at hR;split at hR
 .rename_i h;obtain rfl:=az1 hR;unfold rW;rw[h]; rfl
 cases hR
def dM(b:Bool)(n:Int):Value:=if b=true then .iface 213 (.agg #[.i n,.nilIface])else .nilIface
theorem ZR{b:Bool}{n:Int}{x:Operand}:∀w,(do eqGuard .neq 210 x (.const .nilIface) (dM b n) .nilIface; binOp .neq 210 (dM b n) .nilIface:Sem Value).run prog w = .ok (.bool (!(!b))) w:=λw=>by
 cases b<;>simp[dM,go_sem]
def kH:List (Bool×Int)->Value
 | [] => .nilIface
 | p::l=>if p.1=true then .iface 213 (.agg #[.i 0,.iface 213 (.agg #[.i p.2,.nilIface])])else kH l
theorem Vd(h:dG Bh w v l) :
  Calls prog 272 #[v] w λe w'=>e = .returned (.bool (rW l))∧Ext w w':=by
 obtain⟨a,cap,rfl⟩:=(fH h).shape;have hmax:l.length<=9223372036854775807:=(fH h).len;refine azp func272 ntmps272 λS=>azI S (ι:=Nat×Bool) (λp a' w'=>p.1<=l.length∧(pK l (l.take p.1)=some p.2)∧Sx.St w a' w' 39 [(0,.slice a l.length cap),(2,.z),(3,.bool p.2),(9,.slice a l.length cap),(10,.i l.length),(11,.i p.1)] [] []) (λp=>l.length-p.1) (0,((l.length:Int)==0)) (λS=>⟨azZ _,ZP l,S.qM⟩) ?_;rintro⟨k,any⟩ ac u gQ eu hI;try dsimp only at hI
 obtain⟨hk,hR,S⟩:=hI;refine azJ S λS=>azm S (decide ((k:Int)<(l.length:Int))) (λnJ S=>?_) (λnJ S=>?_)
 .have sN:k<l.length:=by have:=az9 nJ; omega
  obtain⟨b10,o11,rfl,x16,zO,vN,NJ⟩:=aAo (fH h) (λ_=>I) (k) sN;have S:=S.view0 vN NJ;refine adr S 9 [] [.idx k l.length,.mem 0 0] (hk:=⟨sN,G⟩) λS=>azm S ((decide (x16<0))||(decide (1048576<x16))) (λqx S=>?_) (λqx S=>?_)
  .refine apB S (.z) (λS=>?_);exact⟨aN (acf sN hR (by rw[zO]; exact qx)),S.E⟩
  refine adr S 8 [] [.re 26 (.i (IntKind.i64.wrap ((k:Int)+1))) (.i (k+1:Nat))] (hk:=⟨azA Z,G⟩) λS=>azG S gQ (λS=>?_);exact eu _ _ ((k+1),any||(decide (0<x16))) ⟨Z,(by rw[<-zO]; exact ZQ sN hR (by rw[zO]; exact qx)),S.qM⟩ (by show _-_<_-_; omega)
 refine apB S (.bool ((any&&(((Int.tmod (l.length:Int) 2))==0))&&(decide ((l.length:Int)<=16)))) (λS=>?_);exact⟨aN (acg (by have:=aAd nJ; omega) hR),S.E⟩
def aV.valid(p:aV):Bool:=(((((((decide (1<=p.width)&&decide (p.width<=16384))&&((((p.join)==1)||((p.join)==2))||((p.join)==3)))&&((((p.cap)==3)||((p.cap)==4))||((p.cap)==5)))&&(decide (256<=p.fB)))&&(decide (p.fB<=65536)))&&(rW p.dash))&&(decide (0<=p.phase)))&&(decide (p.phase<=1048576))
def aV.eq(p q:aV):Bool:=((((((p.width)==q.width)&&((p.join)==q.join))&&((p.cap)==q.cap))&&((p.fB)==q.fB))&&((p.phase)==q.phase))&&(decide (p.dash=q.dash))
theorem ZT{p:aV}(h:p.ok w) :
  Calls prog 232 #[p.v] w λe w'=>e = .returned (.bool p.valid)∧Ext w w':=by
 skip;refine azp func232 ntmps232 λS=>azo S λu b2 E3 hb4 S=>adr S 31 [] [.mem 0 1,.mem 0 1,.mem 0 1,.mem 0 2,.mem 0 2,.mem 0 2,.mem 0 0] λS=>Sx.lQ S (ace p.width _) λS=>aAQ S 32 [.mem 0 3,.mem 0 3,.mem 0 4,.mem 0 5,.mem 0 5] [(_,_,(((((decide (1<=p.width)&&decide (p.width<=16384))&&((((p.join)==1)||((p.join)==2))||((p.join)==3)))&&((((p.cap)==3)||((p.cap)==4))||((p.cap)==5)))&&(decide (256<=p.fB)))&&(decide (p.fB<=65536))),.bool (rW p.dash))] [(2,.bool ((((((((decide (1<=p.width)&&decide (p.width<=16384))&&((((p.join)==1)||((p.join)==2))||((p.join)==3)))&&((((p.cap)==3)||((p.cap)==4))||((p.cap)==5)))&&(decide (256<=p.fB)))&&(decide (p.fB<=65536)))&&(rW p.dash))&&(decide (0<=p.phase)))&&(decide (p.phase<=1048576))))] ⟨λu hC g=>Vd (h.2.2.2.2.1.below (K00 S.E hC)),G⟩ λu E8 S=>apB S (.bool ((((((((decide (1<=p.width)&&decide (p.width<=16384))&&((((p.join)==1)||((p.join)==2))||((p.join)==3)))&&((((p.cap)==3)||((p.cap)==4))||((p.cap)==5)))&&(decide (256<=p.fB)))&&(decide (p.fB<=65536)))&&(rW p.dash))&&(decide (0<=p.phase)))&&(decide (p.phase<=1048576)))) (λS=>?_);exact⟨I,S.E⟩
theorem vZ{p q:aV}(h:p.ok w)(h':q.ok w) :
  Calls prog 140 #[p.v,q.v] w λe w'=>e = .returned (.bool (p.eq q))∧Ext w w':=by
 skip;refine azp func140 ntmps140 λS=>azo S λu b2 E3 hb4 S=>azo S λu b5 E6 hb7 S=>adr S 1 [] [] λS=>aAQ S 41 [.mem 1 0,.mem 0 0,.mem 1 1,.mem 0 1,.mem 1 2,.mem 0 2,.mem 1 3,.mem 0 3,.mem 1 5,.mem 0 5,.mem 1 4,.mem 0 4] [(_,_,((((((p.width)==q.width)&&((p.join)==q.join))&&((p.cap)==q.cap))&&((p.fB)==q.fB))&&((p.phase)==q.phase)),.bool (p.dash=q.dash))] [(4,.bool (((((((p.width)==q.width)&&((p.join)==q.join))&&((p.cap)==q.cap))&&((p.fB)==q.fB))&&((p.phase)==q.phase))&&(decide (p.dash=q.dash))))] ⟨λu hC g=>ZI (fH (h.2.2.2.2.1.below (K00 S.E hC))) (fH (h'.2.2.2.2.1.below (K00 S.E hC))),G⟩ λu E9 S=>apB S (.bool (((((((p.width)==q.width)&&((p.join)==q.join))&&((p.cap)==q.cap))&&((p.fB)==q.fB))&&((p.phase)==q.phase))&&(decide (p.dash=q.dash)))) (λS=>?_);exact⟨I,S.E⟩
theorem Qy(n:Int)(w:World) :
  Calls prog 186 #[.i n] w λe w'=>e = .returned (.bool ((n==1)||(n==2)))∧w=w':=by
 skip;refine azp func186 ntmps186 λS=>apB S (.bool (((n)==1)||((n)==2))) (λS=>?_);exact⟨I,I⟩
theorem iW(b:Bool)(n:Int)(w:World) :
  Calls prog 188 #[.bool b,.i n] w λe w'=>e = .returned (dM b n)∧w=w':=by
 skip;refine azp func188 ntmps188 λS=>azm S (!b) (λhc4 S=>?_) (λhc4 S=>?_)
 .refine apB S (.nilIface) (λS=>?_);obtain rfl:b=false:=by simpa using hc4
  exact⟨I,I⟩
 refine apB S (.iface 213 (.agg #[.i n,.nilIface])) (λS=>?_);obtain rfl:b=true:=by simpa using hc4
 exact⟨I,I⟩
theorem first_any{l:List (Bool×Int)}(h:aJ 1 (λp=>[dM p.1 p.2]) w v l) :
  Calls prog 187 #[v] w λe w'=>e = .returned (kH l)∧Ext w w':=by
 obtain⟨a,cap,rfl⟩:=h.shape;have hmax:l.length<=9223372036854775807:=h.len;refine azp func187 ntmps187 λS=>azI S (ι:=Nat) (λp a' w'=>p<=l.length∧(kH l=kH (l.drop p))∧Sx.St w a' w' 17 [(0,.slice a l.length cap),(2,.nilIface),(5,.slice a l.length cap),(6,.i l.length),(7,.i p)] [] []) (λp=>l.length-p) (0) (λS=>⟨azZ _,I,S.qM⟩) ?_;rintro k ac u gQ eu hI;try dsimp only at hI
 obtain⟨hk,hR,S⟩:=hI;refine azJ S λS=>azm S (decide ((k:Int)<(l.length:Int))) (λhc6 S=>?_) (λhc6 S=>?_)
 .have gq:k<l.length:=by have:=az9 hc6; omega
  obtain⟨b9,o10,rfl,x15,jC,hb16,uF⟩:=aAo h (λ_=>I) (k) gq;have S:=S.view0 hb16 uF;refine adr S 5 [] [.idx k l.length,.mem 0 0,.cmp .neq 210 (.tmp 11) (.const .nilIface) (dM x15.1 x15.2) .nilIface (.bool (!(!x15.1)))] (hk:=⟨gq,ZR,G⟩) λS=>azm S (!(!x15.1)) (λhc18 S=>?_) (λhc18 S=>?_)
  .have hb:x15.1=true:=by simpa using hc18
   rw[show dM x15.1 x15.2 = .iface 213 (.agg #[.i x15.2,.nilIface])from azQ hb]at S;try rw[show dM x15.1 x15.2 = .iface 213 (.agg #[.i x15.2,.nilIface])from azQ hb]
   refine apB S (.iface 213 (.agg #[.i 0,.iface 213 (.agg #[.i x15.2,.nilIface])])) (λS=>?_);exact⟨by rw[hR,aAZ gq,jC,kH,azQ hb],S.E⟩
  refine adr S 2 [] [.re 16 (.i (IntKind.i64.wrap ((k:Int)+1))) (.i (k+1:Nat))] (hk:=⟨azA Z,G⟩) λS=>azG S gQ (λS=>?_);exact eu _ _ (k+1) ⟨Z,(by rw[hR,aAZ gq,jC,kH,azP (by simpa using hc18)]),S.qM⟩ (by show _-_<_-_; omega)
 refine apB S (.nilIface) (λS=>?_);exact⟨by rw[hR,aA7 (by have:=aAd hc6; omega)]; rfl,S.E⟩
