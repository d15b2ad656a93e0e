/- slices.Equal of the rows that nodes hold. -/
import Derived.Test.YtfmkkemfhjkajaaGreatDoorPath
set_option linter.unusedVariables false
set_option maxHeartbeats 1600000
set_option maxRecDepth 100000
namespace Go.Proofs.YtfmkkemfhjkajaaGreatDoor
open Go.RowKit
variable{α:Type}
theorem aB{a b:Bool}(h:a=b):Ending.returned (.bool a) = .returned (.bool b):=by rw[h]
theorem nC [DecidableEq α]{l m:List α}(h:((l.length:Int) != (m.length:Int))=true):false=decide (l=m):=by
 have h1:l≠m:=fun e=>by subst e; simp at h
 simp[h1]
theorem lT{l m:List α}(h:((l.length:Int) != (m.length:Int))=false):l.length=m.length:=by simp at h; omega
theorem tX [DecidableEq α]{l m:List α}{k:Nat}(hk:l.length≤k)(h:l.length=m.length)(hR:l.take k=m.take k):true=decide (l=m):=by
 rw[List.take_of_length_le hk,List.take_of_length_le (by omega)]at hR; simp[hR]
theorem tV [DecidableEq α]{l m:List α}{k:Nat}(h1:k<l.length)(h2:k<m.length)(h:l[k]≠m[k]):false=decide (l=m):=by
 have h1:l≠m:=fun e=>by subst e; exact h rfl
 simp[h1]
theorem nD{l m:List α}{k:Nat}(h1:k<l.length)(h2:k<m.length)(hR:l.take k=m.take k)(h:l[k]=m[k]):l.take (k+1)=m.take (k+1):=by
 rw[List.take_succ_eq_append_getElem h1,List.take_succ_eq_append_getElem h2,hR,h]
theorem Zw{x y:eG}(h:(!((x.verb==y.verb)&&((x.a.x==y.a.x)&&((x.a.y==y.a.y)&&((x.b.x==y.b.x)&&((x.b.y==y.b.y)&&((x.c.x==y.c.x)&&(x.c.y==y.c.y))))))))=false):x=y:=by
 obtain⟨v,⟨a,b⟩,⟨c,d⟩,⟨e,f⟩⟩:=x;obtain⟨v',⟨a',b'⟩,⟨c',d'⟩,⟨e',f'⟩⟩:=y;simp at h ⊢; omega
theorem FV{a b:UInt8}(h:(a.toNat:Int)=(b.toNat:Int)):a=b:=UInt8.toNat_inj.1 (by omega)
theorem RQ{x y:bY}(h:(!(((x.r.toNat:Int)==y.r.toNat)&&(((x.g.toNat:Int)==y.g.toNat)&&(((x.b.toNat:Int)==y.b.toNat)&&((x.a.toNat:Int)==y.a.toNat)))))=false):x=y:=by
 obtain⟨a,b,c,d⟩:=x;obtain⟨a',b',c',d'⟩:=y;simp only[Bool.not_eq_false',Bool.and_eq_true,beq_iff_eq]at h;rw[FV h.1,FV h.2.1,FV h.2.2.1,FV h.2.2.2]
theorem U0{x y:fZ}(h:(!((x.o==y.o)&&(((x.c.r.toNat:Int)==y.c.r.toNat)&&(((x.c.g.toNat:Int)==y.c.g.toNat)&&(((x.c.b.toNat:Int)==y.c.b.toNat)&&((x.c.a.toNat:Int)==y.c.a.toNat))))))=false):x=y:=by
 obtain⟨o,c⟩:=x;obtain⟨o',c'⟩:=y;simp only[Bool.not_eq_false',Bool.and_eq_true,beq_iff_eq]at h;have:c=c':=RQ (by simp only[Bool.not_eq_false',Bool.and_eq_true,beq_iff_eq]; exact h.2);rw[h.1,this]
theorem ZC{x y:Int}(h:(x != y)=false):x=y:=by simpa using h
theorem Xa{w:World}{v u:Value}{l m:List eG}(h:aN 7 eG.cells w v l)(h':aN 7 eG.cells w u m) :
  Calls Tryz.prog 137 #[v,u] w fun e w'=>e = .returned (.bool (l=m))∧Ext w w':=by
 obtain⟨a,cap,rfl⟩:=h.shape;obtain⟨d,cap',rfl⟩:=h'.shape;have hmax:l.length≤9223372036854775807:=h.len;refine akk Tryz.func137 Tryz.ntmps137 fun ac S=>akg fun _ aP=>adr S 1 [] [(4,.bool false)] fun S=>akf<|aP _ _<|wp_seq_k fun _ fE=>akg fun _ iM=>adr S 5 [] [(10,.bool (((l.length:Int)) != (m.length:Int)))] fun S=>akf (iM _ _ ?_);refine aki S (fun hc4=>?_) (fun hc4=>?_)
 ·refine akg fun _ dG=>adr S 1 [] [(4,.bool false)] fun S=>akf<|dG _ _<|akj S Tryz.results137 ?_;exact⟨aB (nC hc4),S.E⟩
 refine wp_skip<|fE _ _<|wp_seq_k fun _ jl=>akg fun _ jT=>adr S 3 [] [(12,.i l.length),(13,.i 0)] fun S=>akf<|jT _ _<|wp_block ?_;refine Vp.loop (ι:=Nat) (fun p a' w'=>p≤l.length∧(l.take p=m.take p)∧Sx.St w a' w' 26 [(0,.slice a l.length cap),(1,.slice d m.length cap'),(4,.bool false),(12,.i l.length),(13,.i p)] [] []) (fun p=>l.length-p) (0) ⟨Nat.zero_le _,rfl,S.sn⟩ ?_;rintro k ac u hI;try dsimp only at hI
 obtain⟨hk,hR,S⟩:=hI;refine akg fun _ dM=>adr S 1 [] [(14,.bool ((k:Int)<(l.length:Int)))] fun S=>akf<|dM _ _<|wp_seq_k (fun _ gX=>?_);refine aki S (fun bW=>?_) (fun bW=>?_)
 ·refine wp_skip<|gX _ _<|wp_seq_k fun _ dn=>wp_block<|akg fun _ bV=>adr S 2 [] [(5,.i k)] fun S=>akf<|bV _ _<|wp_seq_k (fun _ gJ=>?_);have vZ:k<l.length:=by have:=of_decide_eq_true bW; omega
  obtain⟨b15,o16,rfl,x21,FW,Df,Sj⟩:=Vp.gY h (fun _=>rfl) (k) vZ;have S:=S.view0 Df Sj;have tH:k<m.length:=by have:=lT hc4; have:=of_decide_eq_true bW; omega
  obtain⟨b23,o24,rfl,y29,hx27,I4,Lj⟩:=Vp.gY h' (fun _=>rfl) (k) tH;have S:=S.view0 I4 Lj;refine akr S 9 [.idx k l.length,.mem 1 0,.idx k m.length,.mem 0 0,.cmp .neq 62 (.tmp 19) (.tmp 23) (.agg #[.i x21.verb,.i x21.a.x,.i x21.a.y,.i x21.b.x,.i x21.b.y,.i x21.c.x,.i x21.c.y]) (.agg #[.i y29.verb,.i y29.a.x,.i y29.a.y,.i y29.b.x,.i y29.b.y,.i y29.c.x,.i y29.c.y]) (.bool (!((x21.verb==y29.verb)&&((x21.a.x==y29.a.x)&&((x21.a.y==y29.a.y)&&((x21.b.x==y29.b.x)&&((x21.b.y==y29.b.y)&&((x21.c.x==y29.c.x)&&(x21.c.y==y29.c.y)))))))))] [] [(24,.bool (!((x21.verb==y29.verb)&&((x21.a.x==y29.a.x)&&((x21.a.y==y29.a.y)&&((x21.b.x==y29.b.x)&&((x21.b.y==y29.b.y)&&((x21.c.x==y29.c.x)&&(x21.c.y==y29.c.y)))))))))] trivial (hk:=⟨vZ,tH,aky (fun _=>adx ..) (by kernel_rfl),trivial⟩) fun ac u Es S=>akf (gJ _ _ ?_);refine aki S (fun hc31=>?_) (fun hc31=>?_)
  ·refine akg fun _ kW=>adr S 1 [] [(4,.bool false)] fun S=>akf<|kW _ _<|akj S Tryz.results137 ?_;exact⟨aB (tV vZ tH (fun e=>by have hq:=hc31; rw[FW,hx27]at e; subst e; simp at hq)),S.E⟩
  refine wp_skip<|dn _ _<|Vp.region<|adr S 2 [.re 25 (.i (IntKind.i64.wrap ((k:Int)+1))) (.i (k+1:Nat))] [(13,.i (k+1:Nat))] (hk:=⟨aks (by omega),trivial⟩) fun S=>akf ?_;show ∃i',_∧_;exact⟨(k+1),⟨by omega,(nD vZ tH hR (by rw[FW,hx27]; exact Zw hc31)),S.sn⟩,by show _-_<_-_; omega⟩
 refine wp_exit<|jl _ _<|akg fun _ oV=>adr S 1 [] [(4,.bool true)] fun S=>akf<|oV _ _<|akj S Tryz.results137 ?_;exact⟨aB (tX (by have:=of_decide_eq_false bW; omega) (lT hc4) hR),S.E⟩
theorem Sl{w:World}{v u:Value}{l m:List fZ}(h:aN 5 fZ.cells w v l)(h':aN 5 fZ.cells w u m) :
  Calls Tryz.prog 138 #[v,u] w fun e w'=>e = .returned (.bool (l=m))∧Ext w w':=by
 obtain⟨a,cap,rfl⟩:=h.shape;obtain⟨d,cap',rfl⟩:=h'.shape;have hmax:l.length≤9223372036854775807:=h.len;refine akk Tryz.func138 Tryz.ntmps138 fun ac S=>akg fun _ aP=>adr S 1 [] [(4,.bool false)] fun S=>akf<|aP _ _<|wp_seq_k fun _ fE=>akg fun _ iM=>adr S 5 [] [(10,.bool (((l.length:Int)) != (m.length:Int)))] fun S=>akf (iM _ _ ?_);refine aki S (fun hc4=>?_) (fun hc4=>?_)
 ·refine akg fun _ dG=>adr S 1 [] [(4,.bool false)] fun S=>akf<|dG _ _<|akj S Tryz.results138 ?_;exact⟨aB (nC hc4),S.E⟩
 refine wp_skip<|fE _ _<|wp_seq_k fun _ jl=>akg fun _ jT=>adr S 3 [] [(12,.i l.length),(13,.i 0)] fun S=>akf<|jT _ _<|wp_block ?_;refine Vp.loop (ι:=Nat) (fun p a' w'=>p≤l.length∧(l.take p=m.take p)∧Sx.St w a' w' 26 [(0,.slice a l.length cap),(1,.slice d m.length cap'),(4,.bool false),(12,.i l.length),(13,.i p)] [] []) (fun p=>l.length-p) (0) ⟨Nat.zero_le _,rfl,S.sn⟩ ?_;rintro k ac u hI;try dsimp only at hI
 obtain⟨hk,hR,S⟩:=hI;refine akg fun _ dM=>adr S 1 [] [(14,.bool ((k:Int)<(l.length:Int)))] fun S=>akf<|dM _ _<|wp_seq_k (fun _ gX=>?_);refine aki S (fun bW=>?_) (fun bW=>?_)
 ·refine wp_skip<|gX _ _<|wp_seq_k fun _ dn=>wp_block<|akg fun _ bV=>adr S 2 [] [(5,.i k)] fun S=>akf<|bV _ _<|wp_seq_k (fun _ gJ=>?_);have vZ:k<l.length:=by have:=of_decide_eq_true bW; omega
  obtain⟨b15,o16,rfl,x21,FW,Df,Sj⟩:=Vp.gY h (fun _=>rfl) (k) vZ;have S:=S.view0 Df Sj;have tH:k<m.length:=by have:=lT hc4; have:=of_decide_eq_true bW; omega
  obtain⟨b23,o24,rfl,y29,hx27,I4,Lj⟩:=Vp.gY h' (fun _=>rfl) (k) tH;have S:=S.view0 I4 Lj;refine akr S 9 [.idx k l.length,.mem 1 0,.idx k m.length,.mem 0 0,.cmp .neq 155 (.tmp 19) (.tmp 23) (.agg #[.i x21.o,.int .u8 (x21.c.r.toNat:Int),.int .u8 (x21.c.g.toNat:Int),.int .u8 (x21.c.b.toNat:Int),.int .u8 (x21.c.a.toNat:Int)]) (.agg #[.i y29.o,.int .u8 (y29.c.r.toNat:Int),.int .u8 (y29.c.g.toNat:Int),.int .u8 (y29.c.b.toNat:Int),.int .u8 (y29.c.a.toNat:Int)]) (.bool (!((x21.o==y29.o)&&(((x21.c.r.toNat:Int)==(y29.c.r.toNat:Int))&&(((x21.c.g.toNat:Int)==(y29.c.g.toNat:Int))&&(((x21.c.b.toNat:Int)==(y29.c.b.toNat:Int))&&((x21.c.a.toNat:Int)==(y29.c.a.toNat:Int))))))))] [] [(24,.bool (!((x21.o==y29.o)&&(((x21.c.r.toNat:Int)==(y29.c.r.toNat:Int))&&(((x21.c.g.toNat:Int)==(y29.c.g.toNat:Int))&&(((x21.c.b.toNat:Int)==(y29.c.b.toNat:Int))&&((x21.c.a.toNat:Int)==(y29.c.a.toNat:Int))))))))] trivial (hk:=⟨vZ,tH,aky (fun _=>Zx ..) (by kernel_rfl),trivial⟩) fun ac u Es S=>akf (gJ _ _ ?_);refine aki S (fun hc31=>?_) (fun hc31=>?_)
  ·refine akg fun _ kW=>adr S 1 [] [(4,.bool false)] fun S=>akf<|kW _ _<|akj S Tryz.results138 ?_;exact⟨aB (tV vZ tH (fun e=>by have hq:=hc31; rw[FW,hx27]at e; subst e; simp at hq)),S.E⟩
  refine wp_skip<|dn _ _<|Vp.region<|adr S 2 [.re 25 (.i (IntKind.i64.wrap ((k:Int)+1))) (.i (k+1:Nat))] [(13,.i (k+1:Nat))] (hk:=⟨aks (by omega),trivial⟩) fun S=>akf ?_;show ∃i',_∧_;exact⟨(k+1),⟨by omega,(nD vZ tH hR (by rw[FW,hx27]; exact U0 hc31)),S.sn⟩,by show _-_<_-_; omega⟩
 refine wp_exit<|jl _ _<|akg fun _ oV=>adr S 1 [] [(4,.bool true)] fun S=>akf<|oV _ _<|akj S Tryz.results138 ?_;exact⟨aB (tX (by have:=of_decide_eq_false bW; omega) (lT hc4) hR),S.E⟩
theorem Xb{w:World}{v u:Value}{l m:List bY}(h:aN 4 bY.cells w v l)(h':aN 4 bY.cells w u m) :
  Calls Tryz.prog 140 #[v,u] w fun e w'=>e = .returned (.bool (l=m))∧Ext w w':=by
 obtain⟨a,cap,rfl⟩:=h.shape;obtain⟨d,cap',rfl⟩:=h'.shape;have hmax:l.length≤9223372036854775807:=h.len;refine akk Tryz.func140 Tryz.ntmps140 fun ac S=>akg fun _ aP=>adr S 1 [] [(4,.bool false)] fun S=>akf<|aP _ _<|wp_seq_k fun _ fE=>akg fun _ iM=>adr S 5 [] [(10,.bool (((l.length:Int)) != (m.length:Int)))] fun S=>akf (iM _ _ ?_);refine aki S (fun hc4=>?_) (fun hc4=>?_)
 ·refine akg fun _ dG=>adr S 1 [] [(4,.bool false)] fun S=>akf<|dG _ _<|akj S Tryz.results140 ?_;exact⟨aB (nC hc4),S.E⟩
 refine wp_skip<|fE _ _<|wp_seq_k fun _ jl=>akg fun _ jT=>adr S 3 [] [(12,.i l.length),(13,.i 0)] fun S=>akf<|jT _ _<|wp_block ?_;refine Vp.loop (ι:=Nat) (fun p a' w'=>p≤l.length∧(l.take p=m.take p)∧Sx.St w a' w' 26 [(0,.slice a l.length cap),(1,.slice d m.length cap'),(4,.bool false),(12,.i l.length),(13,.i p)] [] []) (fun p=>l.length-p) (0) ⟨Nat.zero_le _,rfl,S.sn⟩ ?_;rintro k ac u hI;try dsimp only at hI
 obtain⟨hk,hR,S⟩:=hI;refine akg fun _ dM=>adr S 1 [] [(14,.bool ((k:Int)<(l.length:Int)))] fun S=>akf<|dM _ _<|wp_seq_k (fun _ gX=>?_);refine aki S (fun bW=>?_) (fun bW=>?_)
 ·refine wp_skip<|gX _ _<|wp_seq_k fun _ dn=>wp_block<|akg fun _ bV=>adr S 2 [] [(5,.i k)] fun S=>akf<|bV _ _<|wp_seq_k (fun _ gJ=>?_);have vZ:k<l.length:=by have:=of_decide_eq_true bW; omega
  obtain⟨b15,o16,rfl,x21,FW,Df,Sj⟩:=Vp.gY h (fun _=>rfl) (k) vZ;have S:=S.view0 Df Sj;have tH:k<m.length:=by have:=lT hc4; have:=of_decide_eq_true bW; omega
  obtain⟨b23,o24,rfl,y29,hx27,I4,Lj⟩:=Vp.gY h' (fun _=>rfl) (k) tH;have S:=S.view0 I4 Lj;refine akr S 9 [.idx k l.length,.mem 1 0,.idx k m.length,.mem 0 0,.cmp .neq 122 (.tmp 19) (.tmp 23) (.agg #[.int .u8 (x21.r.toNat:Int),.int .u8 (x21.g.toNat:Int),.int .u8 (x21.b.toNat:Int),.int .u8 (x21.a.toNat:Int)]) (.agg #[.int .u8 (y29.r.toNat:Int),.int .u8 (y29.g.toNat:Int),.int .u8 (y29.b.toNat:Int),.int .u8 (y29.a.toNat:Int)]) (.bool (!(((x21.r.toNat:Int)==(y29.r.toNat:Int))&&(((x21.g.toNat:Int)==(y29.g.toNat:Int))&&(((x21.b.toNat:Int)==(y29.b.toNat:Int))&&((x21.a.toNat:Int)==(y29.a.toNat:Int)))))))] [] [(24,.bool (!(((x21.r.toNat:Int)==(y29.r.toNat:Int))&&(((x21.g.toNat:Int)==(y29.g.toNat:Int))&&(((x21.b.toNat:Int)==(y29.b.toNat:Int))&&((x21.a.toNat:Int)==(y29.a.toNat:Int)))))))] trivial (hk:=⟨vZ,tH,aky (fun _=>ady ..) (by kernel_rfl),trivial⟩) fun ac u Es S=>akf (gJ _ _ ?_);refine aki S (fun hc31=>?_) (fun hc31=>?_)
  ·refine akg fun _ kW=>adr S 1 [] [(4,.bool false)] fun S=>akf<|kW _ _<|akj S Tryz.results140 ?_;exact⟨aB (tV vZ tH (fun e=>by have hq:=hc31; rw[FW,hx27]at e; subst e; simp at hq)),S.E⟩
  refine wp_skip<|dn _ _<|Vp.region<|adr S 2 [.re 25 (.i (IntKind.i64.wrap ((k:Int)+1))) (.i (k+1:Nat))] [(13,.i (k+1:Nat))] (hk:=⟨aks (by omega),trivial⟩) fun S=>akf ?_;show ∃i',_∧_;exact⟨(k+1),⟨by omega,(nD vZ tH hR (by rw[FW,hx27]; exact RQ hc31)),S.sn⟩,by show _-_<_-_; omega⟩
 refine wp_exit<|jl _ _<|akg fun _ oV=>adr S 1 [] [(4,.bool true)] fun S=>akf<|oV _ _<|akj S Tryz.results140 ?_;exact⟨aB (tX (by have:=of_decide_eq_false bW; omega) (lT hc4) hR),S.E⟩
theorem Xc{w:World}{v u:Value}{l m:List Int}(h:aN 1 (fun x=>[zn x]) w v l)(h':aN 1 (fun x=>[zn x]) w u m) :
  Calls Tryz.prog 139 #[v,u] w fun e w'=>e = .returned (.bool (l=m))∧Ext w w':=by
 obtain⟨a,cap,rfl⟩:=h.shape;obtain⟨d,cap',rfl⟩:=h'.shape;have hmax:l.length≤9223372036854775807:=h.len;refine akk Tryz.func139 Tryz.ntmps139 fun ac S=>akg fun _ aP=>adr S 1 [] [(4,.bool false)] fun S=>akf<|aP _ _<|wp_seq_k fun _ fE=>akg fun _ iM=>adr S 5 [] [(10,.bool (((l.length:Int)) != (m.length:Int)))] fun S=>akf (iM _ _ ?_);refine aki S (fun hc4=>?_) (fun hc4=>?_)
 ·refine akg fun _ dG=>adr S 1 [] [(4,.bool false)] fun S=>akf<|dG _ _<|akj S Tryz.results139 ?_;exact⟨aB (nC hc4),S.E⟩
 refine wp_skip<|fE _ _<|wp_seq_k fun _ jl=>akg fun _ jT=>adr S 3 [] [(12,.i l.length),(13,.i 0)] fun S=>akf<|jT _ _<|wp_block ?_;refine Vp.loop (ι:=Nat) (fun p a' w'=>p≤l.length∧(l.take p=m.take p)∧Sx.St w a' w' 26 [(0,.slice a l.length cap),(1,.slice d m.length cap'),(4,.bool false),(12,.i l.length),(13,.i p)] [] []) (fun p=>l.length-p) (0) ⟨Nat.zero_le _,rfl,S.sn⟩ ?_;rintro k ac u hI;try dsimp only at hI
 obtain⟨hk,hR,S⟩:=hI;refine akg fun _ dM=>adr S 1 [] [(14,.bool ((k:Int)<(l.length:Int)))] fun S=>akf<|dM _ _<|wp_seq_k (fun _ gX=>?_);refine aki S (fun bW=>?_) (fun bW=>?_)
 ·refine wp_skip<|gX _ _<|wp_seq_k fun _ dn=>wp_block<|akg fun _ bV=>adr S 2 [] [(5,.i k)] fun S=>akf<|bV _ _<|wp_seq_k (fun _ gJ=>?_);have vZ:k<l.length:=by have:=of_decide_eq_true bW; omega
  obtain⟨b15,o16,rfl,x21,FW,Df,Sj⟩:=Vp.gY h (fun _=>rfl) (k) vZ;have S:=S.view0 Df Sj;have tH:k<m.length:=by have:=lT hc4; have:=of_decide_eq_true bW; omega
  obtain⟨b23,o24,rfl,y29,hx27,I4,Lj⟩:=Vp.gY h' (fun _=>rfl) (k) tH;have S:=S.view0 I4 Lj;refine akr S 9 [.idx k l.length,.mem 1 0,.idx k m.length,.mem 0 0] [] [(24,.bool ((x21) != y29))] trivial (hk:=⟨vZ,tH,trivial⟩) fun ac u Es S=>akf (gJ _ _ ?_);refine aki S (fun hc31=>?_) (fun hc31=>?_)
  ·refine akg fun _ kW=>adr S 1 [] [(4,.bool false)] fun S=>akf<|kW _ _<|akj S Tryz.results139 ?_;exact⟨aB (tV vZ tH (fun e=>by have hq:=hc31; rw[FW,hx27]at e; subst e; simp at hq)),S.E⟩
  refine wp_skip<|dn _ _<|Vp.region<|adr S 2 [.re 25 (.i (IntKind.i64.wrap ((k:Int)+1))) (.i (k+1:Nat))] [(13,.i (k+1:Nat))] (hk:=⟨aks (by omega),trivial⟩) fun S=>akf ?_;show ∃i',_∧_;exact⟨(k+1),⟨by omega,(nD vZ tH hR (by rw[FW,hx27]; exact ZC hc31)),S.sn⟩,by show _-_<_-_; omega⟩
 refine wp_exit<|jl _ _<|akg fun _ oV=>adr S 1 [] [(4,.bool true)] fun S=>akf<|oV _ _<|akj S Tryz.results139 ?_;exact⟨aB (tX (by have:=of_decide_eq_false bW; omega) (lT hc4) hR),S.E⟩
open Go.RowKit
variable{α:Type}
theorem Xd(p:bY):(((min (p.r.toNat:Int) (p.a.toNat:Int))==(p.r.toNat:Int))&&(((min (p.g.toNat:Int) (p.a.toNat:Int))==(p.g.toNat:Int))&&(((min (p.b.toNat:Int) (p.a.toNat:Int))==(p.b.toNat:Int))&&((min (p.a.toNat:Int) (p.a.toNat:Int))==(p.a.toNat:Int)))))=p.valid:=by
 have h:∀x y:UInt8,((min (x.toNat:Int) (y.toNat:Int))==(x.toNat:Int))=decide (x≤y):=by
  intro x y; rw[Bool.eq_iff_iff]; simp only[beq_iff_eq,decide_eq_true_eq,UInt8.le_iff_toNat_le]; omega
 rw[h,h,h,h]; unfold bY.valid; simp
theorem nJ{l:List α}{k:Nat}{p:α→Bool}(hk:l.length≤k)(h:(l.take k).all p=true):l.all p=true:=by rwa [List.take_of_length_le hk]at h
theorem wu{l:List α}{k:Nat}{p:α→Bool}(hk:k<l.length)(h:p l[k]=false):l.all p=false:=by
 rw[List.all_eq_false]; exact⟨l[k],List.getElem_mem hk,by simp[h]⟩
theorem kJ{l:List α}{k:Nat}{p:α→Bool}(hk:k<l.length)(hR:(l.take k).all p=true)(h:p l[k]=true):(l.take (k+1)).all p=true:=by
 rw[List.take_succ_eq_append_getElem hk,List.all_append,hR]; simp[h]
theorem Dh{a b:Int}(ha:side a=true)(hb:side b=true):IntKind.i64.wrap (a*b)=a*b:=by
 simp only[side,Bool.and_eq_true,decide_eq_true_eq]at ha hb;have h1:a*b≤4096*4096:=Int.le_trans (Int.mul_le_mul_of_nonneg_right ha.2 (by omega)) (Int.mul_le_mul_of_nonneg_left hb.2 (by omega));have h0:0≤a*b:=Int.mul_nonneg (by omega) (by omega);rw[IntKind.wrap_i64]; omega
theorem Oy{m:bZ}:((((!(side m.w))||(!(side m.h)))||(decide (65536<IntKind.i64.wrap (m.w*m.h))))||((m.l.length:Int) != IntKind.i64.wrap (m.w*m.h)))=((((!(side m.w))||(!(side m.h)))||(decide (65536<(m.w*m.h))))||((m.l.length:Int) != (m.w*m.h))):=by
 cases ha:side m.w<;>cases hb:side m.h<;>simp only[Bool.not_false,Bool.not_true,Bool.true_or,Bool.false_or,Bool.or_true];rw[Dh ha hb]
theorem aes{m:bZ}(h:((((!(side m.w))||(!(side m.h)))||(decide (65536<(m.w*m.h))))||((m.l.length:Int) != (m.w*m.h)))=true):false=m.valid:=by
 unfold bZ.valid bZ.size;revert h;cases side m.w<;>cases side m.h<;>simp;intro h h1 h2; omega
theorem acn{m:bZ}(h:((((!(side m.w))||(!(side m.h)))||(decide (65536<(m.w*m.h))))||((m.l.length:Int) != (m.w*m.h)))=false):(!(!(m.l.all bY.valid)))=m.valid:=by
 unfold bZ.valid bZ.size;revert h;cases side m.w<;>cases side m.h<;>simp;intro h h1; rw[h1]; simp[h]
theorem aeu{m n:bZ}:((m.w==n.w)&&(m.h==n.h)&&decide (m.l=n.l))=m.eq n:=by
 unfold bZ.eq;rw[Bool.and_assoc];by_cases h:m.l=n.l<;>simp[h]
theorem Xe{l:List fZ}(h:((decide ((l.length:Int)<1))||(decide (16<(l.length:Int))))=true):false=eP l:=by
 unfold eP;simp only[Bool.or_eq_true,decide_eq_true_eq]at h;rcases h with h | h
 ·rw[decide_eq_false (by omega)]; rfl
 rw[decide_eq_false (p:=l.length≤16) (by omega)]; simp
theorem Oz{l:List fZ}(h:((decide ((l.length:Int)<1))||(decide (16<(l.length:Int))))=false):eP l=cZ 0 l:=by
 unfold eP;simp only[Bool.or_eq_false_iff,decide_eq_false_iff_not]at h;rw[decide_eq_true (p:=1≤l.length) (by omega),decide_eq_true (p:=l.length≤16) (by omega)]; rfl
theorem Xf{l:List fZ}{k:Nat}{last:Int}(h:((decide ((l.length:Int)<1))||(decide (16<(l.length:Int))))=false)(hk:l.length≤k)(hR:cZ 0 l=cZ last (l.drop k)):true=eP l:=by
 rw[Oz h,hR,List.drop_eq_nil_of_le hk]; rfl
theorem Xg{l:List fZ}{k:Nat}{last:Int}(h:((decide ((l.length:Int)<1))||(decide (16<(l.length:Int))))=false)(hk:k<l.length)(hR:cZ 0 l=cZ last (l.drop k))(hb:((decide (l[k].o<last))||(decide (65536<l[k].o)))=true):false=eP l:=by
 rw[Oz h,hR,List.drop_eq_getElem_cons hk,cZ];simp only[Bool.or_eq_true,decide_eq_true_eq]at hb;rcases hb with hb | hb
 ·rw[decide_eq_false (by omega)]; rfl
 rw[decide_eq_false (p:=l[k].o≤65536) (by omega)]; simp
theorem Sm{l:List fZ}{k:Nat}{last:Int}(hk:k<l.length)(hR:cZ 0 l=cZ last (l.drop k))(hb:((decide (l[k].o<last))||(decide (65536<l[k].o)))=false):cZ 0 l=cZ l[k].o (l.drop (k+1)):=by
 rw[hR,List.drop_eq_getElem_cons hk,cZ];simp only[Bool.or_eq_false_iff,decide_eq_false_iff_not]at hb;rw[decide_eq_true (p:=last≤l[k].o) (by omega),decide_eq_true (p:=l[k].o≤65536) (by omega)]; rfl
theorem wz{w:World}{b:Nat}(p:bY)(x:Int)(hx:Bx w b #[.int .u8 (p.r.toNat:Int),.int .u8 (p.g.toNat:Int),.int .u8 (p.b.toNat:Int),.int .u8 (p.a.toNat:Int)]) :
  Calls Tryz.prog 231 #[.int .u8 x,.pointer (some ⟨b,0,none⟩)] w fun e w'=>e = .returned (.int .u8 (min x (p.a.toNat:Int)))∧w=w':=by
 skip;refine akk Tryz.func231 Tryz.ntmps231 (fun ac S=>?_);have S:=S.view0 hx.1 (hx.range 0 4 rfl);refine akg fun _ aP=>adr S 1 [] [(3,.int .u8 0)] fun S=>akf<|aP _ _<|akg fun _ fE=>adr S 5 [.mem 0 3,.re 7 (.int .u8 (if (p.a.toNat:Int)<x then (p.a.toNat:Int)else x)) (.int .u8 (min x (p.a.toNat:Int)))] [(3,.int .u8 (min x (p.a.toNat:Int)))] (hk:=⟨Sx.aev,trivial⟩) fun S=>akf<|fE _ _<|akj S Tryz.results231 ?_;exact⟨rfl,rfl⟩
theorem ZU{w:World}{b:Nat}(p:bY)(hx:Bx w b #[.int .u8 (p.r.toNat:Int),.int .u8 (p.g.toNat:Int),.int .u8 (p.b.toNat:Int),.int .u8 (p.a.toNat:Int)]) :
  Calls Tryz.prog 230 #[.agg #[.int .u8 (p.r.toNat:Int),.int .u8 (p.g.toNat:Int),.int .u8 (p.b.toNat:Int),.int .u8 (p.a.toNat:Int)],.func (.func 231) #[] #[.pointer (some ⟨b,0,none⟩)]] w fun e w'=>e = .returned (.agg #[.int .u8 (min (p.r.toNat:Int) (p.a.toNat:Int)),.int .u8 (min (p.g.toNat:Int) (p.a.toNat:Int)),.int .u8 (min (p.b.toNat:Int) (p.a.toNat:Int)),.int .u8 (min (p.a.toNat:Int) (p.a.toNat:Int))])∧Ext w w':=by
 skip;refine akk Tryz.func230 Tryz.ntmps230 (fun ac S=>?_);have S:=S.view0 hx.1 (hx.range 0 4 rfl);refine akg fun _ aP=>akh S 2 p.cells fun ac u b2 E3 hb4 S=>akh S 4 [.int .u8 0,.int .u8 0,.int .u8 0,.int .u8 0] fun ac u b5 E6 hb7 S=>akf<|aP _ _<|wp_seq_k fun _ dM=>akr S 17 [.mem 1 0,.mem 1 1,.mem 1 2,.mem 1 3] [(_,_,true,.int .u8 (min (p.r.toNat:Int) (p.a.toNat:Int))),(_,_,true,.int .u8 (min (p.g.toNat:Int) (p.a.toNat:Int))),(_,_,true,.int .u8 (min (p.b.toNat:Int) (p.a.toNat:Int))),(_,_,true,.int .u8 (min (p.a.toNat:Int) (p.a.toNat:Int)))] [(21,.agg #[.int .u8 (min (p.r.toNat:Int) (p.a.toNat:Int)),.int .u8 (min (p.g.toNat:Int) (p.a.toNat:Int)),.int .u8 (min (p.b.toNat:Int) (p.a.toNat:Int)),.int .u8 (min (p.a.toNat:Int) (p.a.toNat:Int))])] ⟨fun u hC g=>akw (wz p (p.r.toNat:Int) (hx.ext (Ext.trans' S.E hC))),fun u hC g=>akw (wz p (p.g.toNat:Int) (hx.ext (Ext.trans' S.E hC))),fun u hC g=>akw (wz p (p.b.toNat:Int) (hx.ext (Ext.trans' S.E hC))),fun u hC g=>akw (wz p (p.a.toNat:Int) (hx.ext (Ext.trans' S.E hC))),trivial⟩ fun ac u E9 S=>akl S 0 (off:=0) (cs:=[.int .u8 (min (p.r.toNat:Int) (p.a.toNat:Int)),.int .u8 (min (p.g.toNat:Int) (p.a.toNat:Int)),.int .u8 (min (p.b.toNat:Int) (p.a.toNat:Int)),.int .u8 (min (p.a.toNat:Int) (p.a.toNat:Int))]) rfl fun u C10 S=>akf<|dM _ _<|akt S 0 Tryz.results230 rfl (v := .agg #[.int .u8 (min (p.r.toNat:Int) (p.a.toNat:Int)),.int .u8 (min (p.g.toNat:Int) (p.a.toNat:Int)),.int .u8 (min (p.b.toNat:Int) (p.a.toNat:Int)),.int .u8 (min (p.a.toNat:Int) (p.a.toNat:Int))]) ?_;exact⟨rfl,S.E⟩
theorem Sr(p:bY)(w:World) :
  Calls Tryz.prog 201 #[.agg #[.int .u8 (p.r.toNat:Int),.int .u8 (p.g.toNat:Int),.int .u8 (p.b.toNat:Int),.int .u8 (p.a.toNat:Int)]] w fun e w'=>e = .returned (.agg #[.int .u8 (min (p.r.toNat:Int) (p.a.toNat:Int)),.int .u8 (min (p.g.toNat:Int) (p.a.toNat:Int)),.int .u8 (min (p.b.toNat:Int) (p.a.toNat:Int)),.int .u8 (min (p.a.toNat:Int) (p.a.toNat:Int))])∧Ext w w':=by
 skip;refine akk Tryz.func201 Tryz.ntmps201 fun ac S=>akg fun _ aP=>akh S 1 p.cells fun ac u b2 E3 hb4 S=>akh S 2 [.int .u8 0,.int .u8 0,.int .u8 0,.int .u8 0] fun ac u b5 E6 hb7 S=>akf<|aP _ _<|akg fun _ dM=>adr S 2 [.mem 1 0] [(3,.agg p.cells.toArray),(4,.func (.func 231) #[] #[.pointer (some ⟨b2,0,none⟩)])] fun S=>akn S 5 (ZU p (S.bx 1)) fun ac u E9 S=>akl S 0 (off:=0) (cs:=[.int .u8 (min (p.r.toNat:Int) (p.a.toNat:Int)),.int .u8 (min (p.g.toNat:Int) (p.a.toNat:Int)),.int .u8 (min (p.b.toNat:Int) (p.a.toNat:Int)),.int .u8 (min (p.a.toNat:Int) (p.a.toNat:Int))]) rfl fun u C10 S=>akf<|dM _ _<|akt S 0 Tryz.results201 rfl (v := .agg #[.int .u8 (min (p.r.toNat:Int) (p.a.toNat:Int)),.int .u8 (min (p.g.toNat:Int) (p.a.toNat:Int)),.int .u8 (min (p.b.toNat:Int) (p.a.toNat:Int)),.int .u8 (min (p.a.toNat:Int) (p.a.toNat:Int))]) ?_;exact⟨rfl,S.E⟩
theorem Ll(p:bY)(w:World) :
  Calls Tryz.prog 160 #[.agg #[.int .u8 (p.r.toNat:Int),.int .u8 (p.g.toNat:Int),.int .u8 (p.b.toNat:Int),.int .u8 (p.a.toNat:Int)]] w fun e w'=>e = .returned (.bool p.valid)∧Ext w w':=by
 skip;refine akk Tryz.func160 Tryz.ntmps160 fun ac S=>akg fun _ aP=>akh S 1 p.cells fun ac u b2 E3 hb4 S=>adr S 1 [] [(2,.bool false)] fun S=>akf<|aP _ _<|wp_seq_k fun _ dG=>akr S 4 [.mem 0 0,.mem 0 0,.cmp .eql 122 (.tmp 4) (.tmp 5) (.agg #[.int .u8 (min (p.r.toNat:Int) (p.a.toNat:Int)),.int .u8 (min (p.g.toNat:Int) (p.a.toNat:Int)),.int .u8 (min (p.b.toNat:Int) (p.a.toNat:Int)),.int .u8 (min (p.a.toNat:Int) (p.a.toNat:Int))]) (.agg #[.int .u8 (p.r.toNat:Int),.int .u8 (p.g.toNat:Int),.int .u8 (p.b.toNat:Int),.int .u8 (p.a.toNat:Int)]) (.bool (((min (p.r.toNat:Int) (p.a.toNat:Int))==(p.r.toNat:Int))&&(((min (p.g.toNat:Int) (p.a.toNat:Int))==(p.g.toNat:Int))&&(((min (p.b.toNat:Int) (p.a.toNat:Int))==(p.b.toNat:Int))&&((min (p.a.toNat:Int) (p.a.toNat:Int))==(p.a.toNat:Int))))))] [(_,_,true,.agg #[.int .u8 (min (p.r.toNat:Int) (p.a.toNat:Int)),.int .u8 (min (p.g.toNat:Int) (p.a.toNat:Int)),.int .u8 (min (p.b.toNat:Int) (p.a.toNat:Int)),.int .u8 (min (p.a.toNat:Int) (p.a.toNat:Int))])] [(6,.bool (((min (p.r.toNat:Int) (p.a.toNat:Int))==(p.r.toNat:Int))&&(((min (p.g.toNat:Int) (p.a.toNat:Int))==(p.g.toNat:Int))&&(((min (p.b.toNat:Int) (p.a.toNat:Int))==(p.b.toNat:Int))&&((min (p.a.toNat:Int) (p.a.toNat:Int))==(p.a.toNat:Int))))))] ⟨fun u hC g=>Sr p _,trivial⟩ (hk:=⟨aky (fun _=>afR ..) (by kernel_rfl),trivial⟩) fun ac u E6 S=>adr S 1 [] [(2,.bool (((min (p.r.toNat:Int) (p.a.toNat:Int))==(p.r.toNat:Int))&&(((min (p.g.toNat:Int) (p.a.toNat:Int))==(p.g.toNat:Int))&&(((min (p.b.toNat:Int) (p.a.toNat:Int))==(p.b.toNat:Int))&&((min (p.a.toNat:Int) (p.a.toNat:Int))==(p.a.toNat:Int))))))] fun S=>akf<|dG _ _<|akj S Tryz.results160 ?_;exact⟨aB (Xd p),S.E⟩
theorem Sv(p:bY)(w:World) :
  Calls Tryz.prog 159 #[.agg #[.int .u8 (p.r.toNat:Int),.int .u8 (p.g.toNat:Int),.int .u8 (p.b.toNat:Int),.int .u8 (p.a.toNat:Int)]] w fun e w'=>e = .returned (.bool (!p.valid))∧Ext w w':=by
 skip;refine akk Tryz.func159 Tryz.ntmps159 fun ac S=>akg fun _ aP=>akh S 1 p.cells fun ac u b2 E3 hb4 S=>adr S 1 [] [(2,.bool false)] fun S=>akf<|aP _ _<|akg fun _ dG=>adr S 1 [.mem 0 0] [(3,.agg p.cells.toArray)] fun S=>akn S 4 (Ll p _) fun ac u E6 S=>adr S 2 [] [(2,.bool (!p.valid))] fun S=>akf<|dG _ _<|akj S Tryz.results159 ?_;exact⟨rfl,S.E⟩
theorem Lm{w:World}{v:Value}{l:List bY}(h:aN 4 bY.cells w v l) :
  Calls Tryz.prog 200 #[v,.func (.func 159) #[] #[]] w fun e w'=>∃z,e = .returned (.i z)∧decide (0≤z) = !(l.all bY.valid)∧Ext w w':=by
 obtain⟨a,cap,rfl⟩:=h.shape;have hmax:l.length≤9223372036854775807:=h.len;refine akk Tryz.func200 Tryz.ntmps200 fun ac S=>akg fun _ aP=>adr S 1 [] [(4,.i 0)] fun S=>akf<|aP _ _<|wp_seq_k fun _ fE=>akg fun _ iM=>adr S 3 [] [(7,.i l.length),(8,.i 0)] fun S=>akf<|iM _ _<|wp_block ?_;refine Vp.loop (ι:=Nat) (fun p a' w'=>p≤l.length∧((l.take p).all bY.valid=true)∧Sx.St w a' w' 19 [(0,.slice a l.length cap),(1,.func (.func 159) #[] #[]),(4,.i 0),(7,.i l.length),(8,.i p)] [] []) (fun p=>l.length-p) (0) ⟨Nat.zero_le _,rfl,S.sn⟩ ?_;rintro k ac u hI;try dsimp only at hI
 obtain⟨hk,hR,S⟩:=hI;refine akg fun _ lX=>adr S 1 [] [(9,.bool ((k:Int)<(l.length:Int)))] fun S=>akf<|lX _ _<|wp_seq_k (fun _ dG=>?_);refine aki S (fun hc6=>?_) (fun hc6=>?_)
 ·refine wp_skip<|dG _ _<|wp_seq_k fun _ jT=>wp_block<|akg fun _ dM=>adr S 2 [] [(5,.i k)] fun S=>akf<|dM _ _<|akg (fun _ gX=>?_);have qP:k<l.length:=by have:=of_decide_eq_true hc6; omega
  obtain⟨b10,o11,rfl,x16,xK,I7,Lp⟩:=Vp.gY h (fun _=>rfl) (k) qP;have S:=S.view0 I7 Lp;refine adr S 5 [.idx k l.length,.mem 0 0] [(11,.func (.func 159) #[] #[]),(15,.agg x16.cells.toArray)] (hk:=⟨qP,trivial⟩) fun S=>akn S 16 (Sv x16 _) fun ac u DL S=>akf (gX _ _ ?_);refine aki S (fun hc19=>?_) (fun hc19=>?_)
  ·refine akg fun _ iT=>adr S 2 [] [(4,.i k)] fun S=>akf<|iT _ _<|akj S Tryz.results200 ?_;exact⟨_,rfl,by rw[wu qP (by rw[xK]; simpa using hc19)]; simp,S.E⟩
  refine wp_skip<|jT _ _<|Vp.region<|adr S 2 [.re 18 (.i (IntKind.i64.wrap ((k:Int)+1))) (.i (k+1:Nat))] [(8,.i (k+1:Nat))] (hk:=⟨aks (by omega),trivial⟩) fun S=>akf ?_;show ∃i',_∧_;exact⟨(k+1),⟨by omega,(kJ qP hR (by rw[xK]; simpa using hc19)),S.sn⟩,by show _-_<_-_; omega⟩
 refine wp_exit<|fE _ _<|akg fun _ jJ=>adr S 1 [] [(4,.i (-1))] fun S=>akf<|jJ _ _<|akj S Tryz.results200 ?_;exact⟨_,rfl,by rw[nJ (by have:=of_decide_eq_false hc6; omega) hR]; rfl,S.E⟩
theorem OA{w:World}{v:Value}{l:List bY}(h:aN 4 bY.cells w v l) :
  Calls Tryz.prog 158 #[v,.func (.func 159) #[] #[]] w fun e w'=>e = .returned (.bool (!(l.all bY.valid)))∧Ext w w':=by
 skip;refine akk Tryz.func158 Tryz.ntmps158 fun ac S=>akg fun _ aP=>adr S 1 [] [(4,.bool false)] fun S=>akf<|aP _ _<|akg fun _ fE=>adr S 2 [] [(5,v),(6,.func (.func 159) #[] #[])] fun S=>ako S (some 7) (Lm (h.below S.E)) ?_;rintro e u ⟨z,rfl,hz,E3⟩;refine⟨_,rfl,E3,fun ac S=>?_⟩;refine adr S 2 [] [(4,.bool (0≤z))] fun S=>akf<|fE _ _<|akj S Tryz.results158 ?_;exact⟨aB hz,S.E⟩
theorem OB(n:Int)(w:World) :
  Calls Tryz.prog 157 #[.i n] w fun e w'=>e = .returned (.bool (side n))∧w=w':=by
 skip;refine akk Tryz.func157 Tryz.ntmps157 fun ac S=>akg fun _ aP=>adr S 1 [] [(2,.bool false)] fun S=>akf<|aP _ _<|akg fun _ fE=>adr S 7 [] [(2,.bool ((decide (1≤n))&&(decide (n≤4096))))] fun S=>akf<|fE _ _<|akj S Tryz.results157 ?_;exact⟨rfl,rfl⟩
theorem Bv{w:World}{m:bZ}(h:m.ok w) :
  Calls Tryz.prog 121 #[m.v] w fun e w'=>e = .returned (.bool m.valid)∧Ext w w':=by
 obtain⟨a,cap,hs⟩:=h.2.2.shape;unfold bZ.v;have hq:=h.2.2;rw[hs];rw[hs]at hq;refine akk Tryz.func121 Tryz.ntmps121 fun ac S=>akg fun _ aP=>akh S 1 [.i m.w,.i m.h,.slice a m.l.length cap] fun ac u b2 E3 hb4 S=>adr S 1 [] [(2,.bool false)] fun S=>akf<|aP _ _<|akg fun _ dG=>adr S 1 [] [(3,.func (.func 157) #[] #[])] fun S=>akf<|dG _ _<|wp_seq_k fun _ jl=>akg fun _ jT=>adr S 3 [.mem 0 0] [(4,.func (.func 157) #[] #[]),(6,.i m.w)] fun S=>akD S 7 (OB m.w _) fun ac S=>aku S 27 [.mem 0 1,.mem 0 0,.mem 0 1,.mem 0 2,.mem 0 0,.mem 0 1] [(_,_,(!(!(side m.w))),.bool (side m.h))] [(34,.bool ((((!(side m.w))||(!(side m.h)))||(decide (65536<(IntKind.i64.wrap (m.w*m.h)))))||(((m.l.length:Int)) != (IntKind.i64.wrap (m.w*m.h)))))] ⟨fun u hC g=>akw (OB m.h _),trivial⟩ fun ac u E8 S=>akf (jT _ _ ?_);refine aki S (fun U7=>?_) (fun U7=>?_)
 ·refine akg fun _ fD=>adr S 1 [] [(2,.bool false)] fun S=>akf<|fD _ _<|akj S Tryz.results121 ?_;exact⟨aB (aes (Oy▸U7)),S.E⟩
 refine wp_skip<|jl _ _<|akg fun _ dn=>adr S 2 [.mem 0 2] [(36,.slice a m.l.length cap)] fun S=>akn S 37 (OA (hq.below S.E)) fun ac u EK S=>adr S 2 [] [(2,.bool (!(!(m.l.all bY.valid))))] fun S=>akf<|dn _ _<|akj S Tryz.results121 ?_;exact⟨aB (acn (Oy▸U7)),S.E⟩
theorem wB{w:World}{m n:bZ}(h:m.ok w)(h':n.ok w) :
  Calls Tryz.prog 97 #[m.v,n.v] w fun e w'=>e = .returned (.bool (m.eq n))∧Ext w w':=by
 skip;refine akk Tryz.func97 Tryz.ntmps97 fun ac S=>akg fun _ aP=>akh S 2 m.cells fun ac u b2 E3 hb4 S=>akh S 3 n.cells fun ac u b5 E6 hb7 S=>adr S 1 [] [(4,.bool false)] fun S=>akf<|aP _ _<|akg fun _ dM=>aku S 20 [.mem 1 0,.mem 0 0,.mem 1 1,.mem 0 1,.mem 1 2,.mem 0 2] [(_,_,(((m.w)==n.w)&&((m.h)==n.h)),.bool (m.l=n.l))] [(4,.bool ((((m.w)==n.w)&&((m.h)==n.h))&&(decide (m.l=n.l))))] ⟨fun u hC g=>Xb (h.2.2.below (Ext.trans' S.E hC)) (h'.2.2.below (Ext.trans' S.E hC)),trivial⟩ fun ac u E9 S=>akf<|dM _ _<|akj S Tryz.results97 ?_;exact⟨aB aeu,S.E⟩
theorem I8{w:World}{v:Value}{l:List fZ}(h:aN 5 fZ.cells w v l) :
  Calls Tryz.prog 251 #[v] w fun e w'=>e = .returned (.bool (eP l))∧Ext w w':=by
 obtain⟨a,cap,rfl⟩:=h.shape;have hmax:l.length≤9223372036854775807:=h.len;refine akk Tryz.func251 Tryz.ntmps251 fun ac S=>akg fun _ aP=>adr S 1 [] [(2,.bool false)] fun S=>akf<|aP _ _<|wp_seq_k fun _ fE=>akg fun _ iM=>adr S 8 [] [(13,.bool ((decide ((l.length:Int)<1))||(decide (16<(l.length:Int)))))] fun S=>akf (iM _ _ ?_);refine aki S (fun hc4=>?_) (fun hc4=>?_)
 ·refine akg fun _ dG=>adr S 1 [] [(2,.bool false)] fun S=>akf<|dG _ _<|akj S Tryz.results251 ?_;exact⟨aB (Xe hc4),S.E⟩
 refine wp_skip<|fE _ _<|akg fun _ jl=>adr S 1 [] [(3,.i 0)] fun S=>akf<|jl _ _<|wp_seq_k fun _ jT=>akg fun _ dM=>adr S 3 [] [(14,.slice a l.length cap),(15,.i l.length),(16,.i 0)] fun S=>akf<|dM _ _<|wp_block ?_;refine Vp.loop (ι:=Nat×Int) (fun p a' w'=>p.1≤l.length∧(cZ 0 l=cZ p.2 (l.drop p.1))∧Sx.St w a' w' 32 [(0,.slice a l.length cap),(2,.bool false),(3,.i p.2),(14,.slice a l.length cap),(15,.i l.length),(16,.i p.1)] [] []) (fun p=>l.length-p.1) (0,0) ⟨Nat.zero_le _,rfl,S.sn⟩ ?_;rintro⟨k,last⟩ ac u hI;try dsimp only at hI
 obtain⟨hk,hR,S⟩:=hI;refine akg fun _ gX=>adr S 1 [] [(17,.bool ((k:Int)<(l.length:Int)))] fun S=>akf<|gX _ _<|wp_seq_k (fun _ fD=>?_);refine aki S (fun fA=>?_) (fun fA=>?_)
 ·refine wp_skip<|fD _ _<|wp_seq_k fun _ bV=>wp_block<|akg (fun _ gJ=>?_);have mO:k<l.length:=by have:=of_decide_eq_true fA; omega
  obtain⟨b14,o15,rfl,x20,uF,CY,FK⟩:=Vp.gY h (fun _=>rfl) (k) mO;have S:=S.view0 CY FK;refine adr S 2 [.idx k l.length,.mem 0 0] [(19,.agg x20.cells.toArray)] (hk:=⟨mO,trivial⟩) fun S=>akh S 5 [.i 0,.int .u8 0,.int .u8 0,.int .u8 0,.int .u8 0] fun ac u b22 Jt Sz S=>akl S 0 (off:=0) (cs:=x20.cells) rfl fun u C25 S=>akf<|gJ _ _<|wp_seq_k fun _ kN=>akg fun _ jK=>adr S 9 [.mem 0 0,.mem 0 0] [(28,.bool ((decide (x20.o<last))||(decide (65536<x20.o))))] fun S=>akf (jK _ _ ?_);refine aki S (fun hc28=>?_) (fun hc28=>?_)
  ·refine akg fun _ qX=>adr S 1 [] [(2,.bool false)] fun S=>akf<|qX _ _<|akj S Tryz.results251 ?_;exact⟨aB (Xg hc4 mO hR (by rw[uF]; exact hc28)),S.E⟩
  refine wp_skip<|kN _ _<|Vp.region<|adr S 3 [.mem 0 0] [(3,.i x20.o)] fun S=>akf<|bV _ _<|Vp.region<|adr S 2 [.re 31 (.i (IntKind.i64.wrap ((k:Int)+1))) (.i (k+1:Nat))] [(16,.i (k+1:Nat))] (hk:=⟨aks (by omega),trivial⟩) fun S=>akf ?_;show ∃i',_∧_;exact⟨((k+1),x20.o),⟨by omega,(by rw[←uF]; exact Sm mO hR (by rw[uF]; exact hc28)),(S.sub [(0,.slice (some ⟨b14,o15,none⟩) l.length cap),(2,.bool false),(3,.i x20.o),(14,.slice (some ⟨b14,o15,none⟩) l.length cap),(15,.i l.length),(16,.i (k+1:Nat))]).pX.oq 1⟩,by show _-_<_-_; omega⟩
 refine wp_exit<|jT _ _<|akg fun _ jM=>adr S 1 [] [(2,.bool true)] fun S=>akf<|jM _ _<|akj S Tryz.results251 ?_;exact⟨aB (Xf hc4 (by have:=of_decide_eq_false fA; omega) hR),S.E⟩
theorem ZV(n:Int)(w:World) :
  Calls Tryz.prog 119 #[.i n] w fun e w'=>e = .returned (.bool (decide (1≤n)&&decide (n≤13)))∧w=w':=by
 skip;refine akk Tryz.func119 Tryz.ntmps119 fun ac S=>akg fun _ aP=>adr S 1 [] [(2,.bool false)] fun S=>akf<|aP _ _<|akg fun _ fE=>adr S 7 [] [(2,.bool ((decide (1≤n))&&(decide (n≤13))))] fun S=>akf<|fE _ _<|akj S Tryz.results119 ?_;exact⟨rfl,rfl⟩
theorem FX(n:Int)(w:World) :
  Calls Tryz.prog 229 #[.i n] w fun e w'=>e = .returned (.bool (iW n))∧w=w':=by
 skip;refine akk Tryz.func229 Tryz.ntmps229 fun ac S=>akg fun _ aP=>adr S 1 [] [(2,.bool false)] fun S=>akf<|aP _ _<|akg fun _ fE=>adr S 7 [] [(2,.bool ((decide (1≤n))&&(decide (n≤3))))] fun S=>akf<|fE _ _<|akj S Tryz.results229 ?_;exact⟨rfl,rfl⟩
theorem ZW(n:Int)(w:World) :
  Calls Tryz.prog 195 #[.i n] w fun e w'=>e = .returned (.bool (decide (1≤n)&&decide (n≤16384)))∧w=w':=by
 skip;refine akk Tryz.func195 Tryz.ntmps195 fun ac S=>akg fun _ aP=>adr S 1 [] [(2,.bool false)] fun S=>akf<|aP _ _<|akg fun _ fE=>adr S 7 [] [(2,.bool ((decide (1≤n))&&(decide (n≤16384))))] fun S=>akf<|fE _ _<|akj S Tryz.results195 ?_;exact⟨rfl,rfl⟩
open Go.RowKit
variable{α:Type}
def oH(l s:List Int):Option Bool:=if s.all (fun x=>decide (0≤x)&&decide (x≤1048576))then some (((l.length:Int)==0)||s.any (fun x=>decide (0<x)))else none
def mW(l:List Int):Bool:=l.all (fun x=>decide (0≤x)&&decide (x≤1048576))&&((((((l.length:Int)==0)||l.any (fun x=>decide (0<x)))&&((Int.tmod (l.length:Int) 2)==0))&&(decide ((l.length:Int)≤16))))
theorem Jz(l:List Int):oH l (l.take 0)=some ((l.length:Int)==0):=by simp[oH]
theorem JA{l:List Int}{k:Nat}{any:Bool}(hk:k<l.length)(hR:oH l (l.take k)=some any)(hb:((decide (l[k]<0))||(decide (1048576<l[k])))=false):oH l (l.take (k+1))=some (any||(decide (0<l[k]))):=by
 unfold oH at hR ⊢;rw[List.take_succ_eq_append_getElem hk,List.all_append,List.any_append];simp only[Bool.or_eq_false_iff,decide_eq_false_iff_not]at hb;split at hR
 ·rename_i h;obtain rfl:=Option.some.inj hR;rw[h];simp[show 0≤l[k] by omega,show l[k]≤1048576 by omega,Bool.or_assoc]
 cases hR
theorem OC{l:List Int}{k:Nat}{any:Bool}(hk:k<l.length)(hR:oH l (l.take k)=some any)(hb:((decide (l[k]<0))||(decide (1048576<l[k])))=true):false=mW l:=by
 simp only[Bool.or_eq_true,decide_eq_true_eq]at hb;unfold mW;rw[wu hk (by simp; omega)]; rfl
theorem OD{l:List Int}{k:Nat}{any:Bool}(hk:l.length≤k)(hR:oH l (l.take k)=some any):((any&&((Int.tmod (l.length:Int) 2)==0))&&(decide ((l.length:Int)≤16)))=mW l:=by
 unfold oH at hR;rw[List.take_of_length_le hk]at hR;split at hR
 ·rename_i h;obtain rfl:=Option.some.inj hR;unfold mW;rw[h]; rfl
 cases hR
def dI(b:Bool)(n:Int):Value:=if b=true then .iface 111 (.agg #[.i n,.nilIface])else .nilIface
theorem Xh{b:Bool}{n:Int}{x:Operand}:∀w,(do eqGuard .neq 108 x (.const .nilIface) (dI b n) .nilIface; binOp .neq 108 (dI b n) .nilIface:Sem Value).run Tryz.prog w = .ok (.bool (!(!b))) w:=fun w=>by
 cases b<;>simp[dI,go_sem]
def kM:List (Bool×Int)→Value
 | [] => .nilIface
 | p::l=>if p.1=true then .iface 111 (.agg #[.i 0,.iface 111 (.agg #[.i p.2,.nilIface])])else kM l
theorem SA{w:World}{v:Value}{l:List Int}(h:dW zn w v l) :
  Calls Tryz.prog 196 #[v] w fun e w'=>e = .returned (.bool (mW l))∧Ext w w':=by
 obtain⟨a,cap,rfl⟩:=(dS h).shape;have hmax:l.length≤9223372036854775807:=(dS h).len;refine akk Tryz.func196 Tryz.ntmps196 fun ac S=>akg fun _ aP=>adr S 1 [] [(2,.bool false)] fun S=>akf<|aP _ _<|akg fun _ fE=>adr S 4 [] [(3,.bool (((l.length:Int))==0))] fun S=>akf<|fE _ _<|wp_seq_k fun _ iM=>akg fun _ lX=>adr S 3 [] [(9,.slice a l.length cap),(10,.i l.length),(11,.i 0)] fun S=>akf<|lX _ _<|wp_block ?_;refine Vp.loop (ι:=Nat×Bool) (fun p a' w'=>p.1≤l.length∧(oH l (l.take p.1)=some p.2)∧Sx.St w a' w' 39 [(0,.slice a l.length cap),(2,.bool false),(3,.bool p.2),(9,.slice a l.length cap),(10,.i l.length),(11,.i p.1)] [] []) (fun p=>l.length-p.1) (0,((l.length:Int)==0)) ⟨Nat.zero_le _,Jz l,S.sn⟩ ?_;rintro⟨k,any⟩ ac u hI;try dsimp only at hI
 obtain⟨hk,hR,S⟩:=hI;refine akg fun _ dG=>adr S 1 [] [(12,.bool ((k:Int)<(l.length:Int)))] fun S=>akf<|dG _ _<|wp_seq_k (fun _ jl=>?_);refine aki S (fun lD=>?_) (fun lD=>?_)
 ·refine wp_skip<|jl _ _<|wp_seq_k fun _ dM=>wp_block<|akg (fun _ gX=>?_);have qP:k<l.length:=by have:=of_decide_eq_true lD; omega
  obtain⟨b10,o11,rfl,x16,xK,I7,Lp⟩:=Vp.gY (dS h) (fun _=>rfl) (k) qP;have S:=S.view0 I7 Lp;refine adr S 3 [.idx k l.length,.mem 0 0] [(5,.i x16)] (hk:=⟨qP,trivial⟩) fun S=>akf<|gX _ _<|wp_seq_k fun _ jm=>akg fun _ jI=>adr S 6 [] [(20,.bool ((decide (x16<0))||(decide (1048576<x16))))] fun S=>akf (jI _ _ ?_);refine aki S (fun tJ=>?_) (fun tJ=>?_)
  ·refine akg fun _ jJ=>adr S 1 [] [(2,.bool false)] fun S=>akf<|jJ _ _<|akj S Tryz.results196 ?_;exact⟨aB (OC qP hR (by rw[xK]; exact tJ)),S.E⟩
  refine wp_skip<|jm _ _<|Vp.region<|adr S 6 [] [(3,.bool (any||(decide (0<x16))))] fun S=>akf<|dM _ _<|Vp.region<|adr S 2 [.re 26 (.i (IntKind.i64.wrap ((k:Int)+1))) (.i (k+1:Nat))] [(11,.i (k+1:Nat))] (hk:=⟨aks (by omega),trivial⟩) fun S=>akf ?_;show ∃i',_∧_;exact⟨((k+1),any||(decide (0<x16))),⟨by omega,(by rw[←xK]; exact JA qP hR (by rw[xK]; exact tJ)),S.sn⟩,by show _-_<_-_; omega⟩
 refine wp_exit<|iM _ _<|akg fun _ jv=>adr S 13 [] [(2,.bool ((any&&(((Int.tmod (l.length:Int) 2))==0))&&(decide ((l.length:Int)≤16))))] fun S=>akf<|jv _ _<|akj S Tryz.results196 ?_;exact⟨aB (OD (by have:=of_decide_eq_false lD; omega) hR),S.E⟩
def aY.valid(p:aY):Bool:=(((((((decide (1≤p.width)&&decide (p.width≤16384))&&((((p.join)==1)||((p.join)==2))||((p.join)==3)))&&((((p.cap)==3)||((p.cap)==4))||((p.cap)==5)))&&(decide (256≤p.eu)))&&(decide (p.eu≤65536)))&&(mW p.dash))&&(decide (0≤p.phase)))&&(decide (p.phase≤1048576))
def aY.eq(p q:aY):Bool:=((((((p.width)==q.width)&&((p.join)==q.join))&&((p.cap)==q.cap))&&((p.eu)==q.eu))&&((p.phase)==q.phase))&&(decide (p.dash=q.dash))
theorem Xi{w:World}{p:aY}(h:p.ok w) :
  Calls Tryz.prog 155 #[p.v] w fun e w'=>e = .returned (.bool p.valid)∧Ext w w':=by
 skip;refine akk Tryz.func155 Tryz.ntmps155 fun ac S=>akg fun _ aP=>akh S 1 p.cells fun ac u b2 E3 hb4 S=>adr S 1 [] [(2,.bool false)] fun S=>akf<|aP _ _<|akg fun _ dG=>adr S 14 [.mem 0 1,.mem 0 1,.mem 0 1] [(3,.bool ((((p.join)==1)||((p.join)==2))||((p.join)==3)))] fun S=>akf<|dG _ _<|akg fun _ jl=>adr S 14 [.mem 0 2,.mem 0 2,.mem 0 2] [(4,.bool ((((p.cap)==3)||((p.cap)==4))||((p.cap)==5)))] fun S=>akf<|jl _ _<|akg fun _ jT=>adr S 2 [.mem 0 0] [(32,.i p.width)] fun S=>akD S 33 (ZW p.width _) fun ac S=>aku S 32 [.mem 0 3,.mem 0 3,.mem 0 4,.mem 0 5,.mem 0 5] [(_,_,(((((decide (1≤p.width)&&decide (p.width≤16384))&&((((p.join)==1)||((p.join)==2))||((p.join)==3)))&&((((p.cap)==3)||((p.cap)==4))||((p.cap)==5)))&&(decide (256≤p.eu)))&&(decide (p.eu≤65536))),.bool (mW p.dash))] [(2,.bool ((((((((decide (1≤p.width)&&decide (p.width≤16384))&&((((p.join)==1)||((p.join)==2))||((p.join)==3)))&&((((p.cap)==3)||((p.cap)==4))||((p.cap)==5)))&&(decide (256≤p.eu)))&&(decide (p.eu≤65536)))&&(mW p.dash))&&(decide (0≤p.phase)))&&(decide (p.phase≤1048576))))] ⟨fun u hC g=>SA (h.2.2.2.2.1.below (Ext.trans' S.E hC)),trivial⟩ fun ac u E8 S=>akf<|jT _ _<|akj S Tryz.results155 ?_;exact⟨rfl,S.E⟩
theorem xM{w:World}{p q:aY}(h:p.ok w)(h':q.ok w) :
  Calls Tryz.prog 96 #[p.v,q.v] w fun e w'=>e = .returned (.bool (p.eq q))∧Ext w w':=by
 skip;refine akk Tryz.func96 Tryz.ntmps96 fun ac S=>akg fun _ aP=>akh S 2 p.cells fun ac u b2 E3 hb4 S=>akh S 3 q.cells fun ac u b5 E6 hb7 S=>adr S 1 [] [(4,.bool false)] fun S=>akf<|aP _ _<|akg fun _ dM=>aku S 41 [.mem 1 0,.mem 0 0,.mem 1 1,.mem 0 1,.mem 1 2,.mem 0 2,.mem 1 3,.mem 0 3,.mem 1 5,.mem 0 5,.mem 1 4,.mem 0 4] [(_,_,((((((p.width)==q.width)&&((p.join)==q.join))&&((p.cap)==q.cap))&&((p.eu)==q.eu))&&((p.phase)==q.phase)),.bool (p.dash=q.dash))] [(4,.bool (((((((p.width)==q.width)&&((p.join)==q.join))&&((p.cap)==q.cap))&&((p.eu)==q.eu))&&((p.phase)==q.phase))&&(decide (p.dash=q.dash))))] ⟨fun u hC g=>Xc (dS (h.2.2.2.2.1.below (Ext.trans' S.E hC))) (dS (h'.2.2.2.2.1.below (Ext.trans' S.E hC))),trivial⟩ fun ac u E9 S=>akf<|dM _ _<|akj S Tryz.results96 ?_;exact⟨rfl,S.E⟩
theorem OE(n:Int)(w:World) :
  Calls Tryz.prog 112 #[.i n] w fun e w'=>e = .returned (.bool ((n==1)||(n==2)))∧w=w':=by
 skip;refine akk Tryz.func112 Tryz.ntmps112 fun ac S=>akg fun _ aP=>adr S 1 [] [(2,.bool false)] fun S=>akf<|aP _ _<|akg fun _ fE=>adr S 7 [] [(2,.bool (((n)==1)||((n)==2)))] fun S=>akf<|fE _ _<|akj S Tryz.results112 ?_;exact⟨rfl,rfl⟩
theorem jg(b:Bool)(n:Int)(w:World) :
  Calls Tryz.prog 114 #[.bool b,.i n] w fun e w'=>e = .returned (dI b n)∧w=w':=by
 skip;refine akk Tryz.func114 Tryz.ntmps114 fun ac S=>akg fun _ aP=>adr S 1 [] [(4,.nilIface)] fun S=>akf<|aP _ _<|wp_seq_k fun _ fE=>akg fun _ iM=>adr S 2 [] [(6,.bool (!b))] fun S=>akf (iM _ _ ?_);refine aki S (fun hc4=>?_) (fun hc4=>?_)
 ·refine akg fun _ dG=>adr S 1 [] [(4,.nilIface)] fun S=>akf<|dG _ _<|akj S Tryz.results114 ?_;obtain rfl:b=false:=by simpa using hc4
  exact⟨rfl,rfl⟩
 refine wp_skip<|fE _ _<|akg fun _ jl=>adr S 4 [] [(4,.iface 111 (.agg #[.i n,.nilIface]))] fun S=>akf<|jl _ _<|akj S Tryz.results114 ?_;obtain rfl:b=true:=by simpa using hc4
 exact⟨rfl,rfl⟩
theorem first_any{w:World}{v:Value}{l:List (Bool×Int)}(h:aN 1 (fun p=>[dI p.1 p.2]) w v l) :
  Calls Tryz.prog 113 #[v] w fun e w'=>e = .returned (kM l)∧Ext w w':=by
 obtain⟨a,cap,rfl⟩:=h.shape;have hmax:l.length≤9223372036854775807:=h.len;refine akk Tryz.func113 Tryz.ntmps113 fun ac S=>akg fun _ aP=>adr S 1 [] [(2,.nilIface)] fun S=>akf<|aP _ _<|wp_seq_k fun _ fE=>akg fun _ iM=>adr S 3 [] [(5,.slice a l.length cap),(6,.i l.length),(7,.i 0)] fun S=>akf<|iM _ _<|wp_block ?_;refine Vp.loop (ι:=Nat) (fun p a' w'=>p≤l.length∧(kM l=kM (l.drop p))∧Sx.St w a' w' 17 [(0,.slice a l.length cap),(2,.nilIface),(5,.slice a l.length cap),(6,.i l.length),(7,.i p)] [] []) (fun p=>l.length-p) (0) ⟨Nat.zero_le _,rfl,S.sn⟩ ?_;rintro k ac u hI;try dsimp only at hI
 obtain⟨hk,hR,S⟩:=hI;refine akg fun _ lX=>adr S 1 [] [(8,.bool ((k:Int)<(l.length:Int)))] fun S=>akf<|lX _ _<|wp_seq_k (fun _ dG=>?_);refine aki S (fun hc6=>?_) (fun hc6=>?_)
 ·refine wp_skip<|dG _ _<|wp_seq_k fun _ jT=>wp_block<|akg (fun _ dM=>?_);have uI:k<l.length:=by have:=of_decide_eq_true hc6; omega
  obtain⟨b9,o10,rfl,x15,Di,hb16,SB⟩:=Vp.gY h (fun _=>rfl) (k) uI;have S:=S.view0 hb16 SB;refine adr S 3 [.idx k l.length,.mem 0 0] [(4,dI x15.1 x15.2)] (hk:=⟨uI,trivial⟩) fun S=>akf<|dM _ _<|akg fun _ gI=>adr S 2 [.cmp .neq 108 (.tmp 11) (.const .nilIface) (dI x15.1 x15.2) .nilIface (.bool (!(!x15.1)))] [(12,.bool (!(!x15.1)))] (hk:=⟨Xh,trivial⟩) fun S=>akf (gI _ _ ?_);refine aki S (fun hc18=>?_) (fun hc18=>?_)
  ·have hb:x15.1=true:=by simpa using hc18
   rw[show dI x15.1 x15.2 = .iface 111 (.agg #[.i x15.2,.nilIface])from if_pos hb]at S;refine akg fun _ jI=>adr S 4 [] [(2,.iface 111 (.agg #[.i 0,.iface 111 (.agg #[.i x15.2,.nilIface])]))] fun S=>akf<|jI _ _<|akj S Tryz.results113 ?_;exact⟨by rw[hR,List.drop_eq_getElem_cons uI,Di,kM,if_pos hb],S.E⟩
  refine wp_skip<|jT _ _<|Vp.region<|adr S 2 [.re 16 (.i (IntKind.i64.wrap ((k:Int)+1))) (.i (k+1:Nat))] [(7,.i (k+1:Nat))] (hk:=⟨aks (by omega),trivial⟩) fun S=>akf ?_;show ∃i',_∧_;exact⟨(k+1),⟨by omega,(by rw[hR,List.drop_eq_getElem_cons uI,Di,kM,if_neg (by simpa using hc18)]),S.sn⟩,by show _-_<_-_; omega⟩
 refine wp_exit<|fE _ _<|akg fun _ iT=>adr S 1 [] [(2,.nilIface)] fun S=>akf<|iT _ _<|akj S Tryz.results113 ?_;exact⟨by rw[hR,List.drop_eq_nil_of_le (by have:=of_decide_eq_false hc6; omega)]; rfl,S.E⟩
end Go.Proofs.YtfmkkemfhjkajaaGreatDoor
