/- Equality of nodes: the references. The key of a node: -/
import Derived.Test.YtodpgjjgaddkeaaGreatDoorPk17
import Derived.Maps.Own
import Derived.Maps.Views
set_option maxHeartbeats 3200000
set_option maxRecDepth 100000
set_option linter.unusedVariables false
set_option linter.unusedSimpArgs false
namespace Go.Proofs.YtodpgjjgaddkeaaGreatDoor
section
open Go.RowKit
variable{α:Type}{K:Nat}
theorem BF{w:World}{v u:Value}{l m:List dM}(h:aI 7 dM.cells w v l)(h':aI 7 dM.cells w u m) :
  Calls Tryz.prog 65 #[v,u] w fun e w'=>e = .returned (.bool (l=m))∧Ext w w':=by
 obtain⟨a,cap,rfl⟩:=h.shape;obtain⟨d,cap',rfl⟩:=h'.shape;have hmax:l.length≤9223372036854775807:=h.len;refine aze Tryz.func65 Tryz.ntmps65 fun S=>azb S (((l.length:Int)) != (m.length:Int)) (fun hc4 S=>?_) (fun hc4 S=>?_)
 ·refine ay9 S (.z) (fun S=>?_);exact⟨aN (mJ hc4),S.E⟩
 refine azw S (ι:=Nat) (fun p a' w'=>p≤l.length∧(l.take p=m.take p)∧Sx.St w a' w' 26 [(0,.slice a l.length cap),(1,.slice d m.length cap'),(4,.z),(5,.i p)] [] []) (fun p=>l.length-p) (0) (fun S=>⟨azQ _,rfl,S.sN⟩) ?_;rintro k ac u gW eH hI;try dsimp only at hI
 obtain⟨hk,hR,S⟩:=hI;refine azx S fun S=>azb S (decide ((k:Int)<(l.length:Int))) (fun fK S=>?_) (fun fK S=>?_)
 ·have nY:k<l.length:=by have:=azZ fK; omega
  obtain⟨b14,o15,rfl,x20,uD,vU,Nj⟩:=aAe h (fun _=>rfl) (k) nY;have S:=S.view0 vU Nj;have lH:k<m.length:=by have:=(lF hc4); have:=azZ fK; omega
  obtain⟨b22,o23,rfl,y28,qE,JK,NY⟩:=aAe h' (fun _=>rfl) (k) lH;have S:=S.view0 JK NY;refine azs S 9 [.idx k l.length,.mem 1 0,.idx k m.length,.mem 0 0,.cmp .neq 163 (.tmp 20) (.tmp 24) (.agg #[.i x20.verb,.i x20.a.x,.i x20.a.y,.i x20.b.x,.i x20.b.y,.i x20.c.x,.i x20.c.y]) (.agg #[.i y28.verb,.i y28.a.x,.i y28.a.y,.i y28.b.x,.i y28.b.y,.i y28.c.x,.i y28.c.y]) (.bool (!((x20.verb==y28.verb)&&((x20.a.x==y28.a.x)&&((x20.a.y==y28.a.y)&&((x20.b.x==y28.b.x)&&((x20.b.y==y28.b.y)&&((x20.c.x==y28.c.x)&&(x20.c.y==y28.c.y)))))))))] [] [(25,.bool (!((x20.verb==y28.verb)&&((x20.a.x==y28.a.x)&&((x20.a.y==y28.a.y)&&((x20.b.x==y28.b.x)&&((x20.b.y==y28.b.y)&&((x20.c.x==y28.c.x)&&(x20.c.y==y28.c.y)))))))))] trivial (hk:=⟨nY,lH,azD (fun _=>ah3 ..) (by kernel_rfl),trivial⟩) fun u EM S=>azb S (!((x20.verb==y28.verb)&&((x20.a.x==y28.a.x)&&((x20.a.y==y28.a.y)&&((x20.b.x==y28.b.x)&&((x20.b.y==y28.b.y)&&((x20.c.x==y28.c.x)&&(x20.c.y==y28.c.y)))))))) (fun zL S=>?_) (fun zL S=>?_)
  ·refine ay9 S (.z) (fun S=>?_);exact⟨aN (qW nY lH (fun e=>by have hq:=zL; rw[uD,qE]at e; subst e; simp at hq)),S.E⟩
  refine adr S 3 [] [.re 16 (.i (IntKind.i64.wrap ((k:Int)+1))) (.i (k+1:Nat))] (hk:=⟨azt (by omega),trivial⟩) fun S=>azy S gW (fun S=>?_);exact eH _ _ (k+1) ⟨by omega,(mM nY lH hR (by rw[uD,qE]; exact abR zL)),S.sN⟩ (by show _-_<_-_; omega)
 refine ay9 S (.bool true) (fun S=>?_);exact⟨aN (qV (by have:=az4 fK; omega) (lF hc4) hR),S.E⟩
theorem Rq{w:World}{v u:Value}{l m:List dH}(h:aI 5 dH.cells w v l)(h':aI 5 dH.cells w u m) :
  Calls Tryz.prog 154 #[v,u] w fun e w'=>e = .returned (.bool (l=m))∧Ext w w':=by
 obtain⟨a,cap,rfl⟩:=h.shape;obtain⟨d,cap',rfl⟩:=h'.shape;have hmax:l.length≤9223372036854775807:=h.len;refine aze Tryz.func154 Tryz.ntmps154 fun S=>azb S (((l.length:Int)) != (m.length:Int)) (fun hc4 S=>?_) (fun hc4 S=>?_)
 ·refine ay9 S (.z) (fun S=>?_);exact⟨aN (mJ hc4),S.E⟩
 refine azw S (ι:=Nat) (fun p a' w'=>p≤l.length∧(l.take p=m.take p)∧Sx.St w a' w' 26 [(0,.slice a l.length cap),(1,.slice d m.length cap'),(4,.z),(5,.i p)] [] []) (fun p=>l.length-p) (0) (fun S=>⟨azQ _,rfl,S.sN⟩) ?_;rintro k ac u gW eH hI;try dsimp only at hI
 obtain⟨hk,hR,S⟩:=hI;refine azx S fun S=>azb S (decide ((k:Int)<(l.length:Int))) (fun fK S=>?_) (fun fK S=>?_)
 ·have nY:k<l.length:=by have:=azZ fK; omega
  obtain⟨b14,o15,rfl,x20,uD,vU,Nj⟩:=aAe h (fun _=>rfl) (k) nY;have S:=S.view0 vU Nj;have lH:k<m.length:=by have:=(lF hc4); have:=azZ fK; omega
  obtain⟨b22,o23,rfl,y28,qE,JK,NY⟩:=aAe h' (fun _=>rfl) (k) lH;have S:=S.view0 JK NY;refine azs S 9 [.idx k l.length,.mem 1 0,.idx k m.length,.mem 0 0,.cmp .neq 202 (.tmp 20) (.tmp 24) (.agg #[.i x20.o,.u (x20.c.r.toNat:Int),.u (x20.c.g.toNat:Int),.u (x20.c.b.toNat:Int),.u (x20.c.a.toNat:Int)]) (.agg #[.i y28.o,.u (y28.c.r.toNat:Int),.u (y28.c.g.toNat:Int),.u (y28.c.b.toNat:Int),.u (y28.c.a.toNat:Int)]) (.bool (!((x20.o==y28.o)&&(((x20.c.r.toNat:Int)==(y28.c.r.toNat:Int))&&(((x20.c.g.toNat:Int)==(y28.c.g.toNat:Int))&&(((x20.c.b.toNat:Int)==(y28.c.b.toNat:Int))&&((x20.c.a.toNat:Int)==(y28.c.a.toNat:Int))))))))] [] [(25,.bool (!((x20.o==y28.o)&&(((x20.c.r.toNat:Int)==(y28.c.r.toNat:Int))&&(((x20.c.g.toNat:Int)==(y28.c.g.toNat:Int))&&(((x20.c.b.toNat:Int)==(y28.c.b.toNat:Int))&&((x20.c.a.toNat:Int)==(y28.c.a.toNat:Int))))))))] trivial (hk:=⟨nY,lH,azD (fun _=>abT ..) (by kernel_rfl),trivial⟩) fun u EM S=>azb S (!((x20.o==y28.o)&&(((x20.c.r.toNat:Int)==(y28.c.r.toNat:Int))&&(((x20.c.g.toNat:Int)==(y28.c.g.toNat:Int))&&(((x20.c.b.toNat:Int)==(y28.c.b.toNat:Int))&&((x20.c.a.toNat:Int)==(y28.c.a.toNat:Int))))))) (fun zL S=>?_) (fun zL S=>?_)
  ·refine ay9 S (.z) (fun S=>?_);exact⟨aN (qW nY lH (fun e=>by have hq:=zL; rw[uD,qE]at e; subst e; simp at hq)),S.E⟩
  refine adr S 3 [] [.re 16 (.i (IntKind.i64.wrap ((k:Int)+1))) (.i (k+1:Nat))] (hk:=⟨azt (by omega),trivial⟩) fun S=>azy S gW (fun S=>?_);exact eH _ _ (k+1) ⟨by omega,(mM nY lH hR (by rw[uD,qE]; exact XL zL)),S.sN⟩ (by show _-_<_-_; omega)
 refine ay9 S (.bool true) (fun S=>?_);exact⟨aN (qV (by have:=az4 fK; omega) (lF hc4) hR),S.E⟩
theorem ajZ{p q:dB}(h:((((p.w) != q.w)||((p.h) != q.h))||((p.l.length:Int) != (q.l.length:Int)))=true):false=p.eq q:=by
 symm;rw[Bool.eq_false_iff];intro e;simp only[dB.eq,azY,azU]at e;rw[e.1,e.2.1,e.2.2]at h;simp at h
theorem adC{p q:dB}(h:((((p.w) != q.w)||((p.h) != q.h))||((p.l.length:Int) != (q.l.length:Int)))=false):p.l.length=q.l.length:=by
 simp at h; omega
theorem aj0{p q:dB}(h:((((p.w) != q.w)||((p.h) != q.h))||((p.l.length:Int) != (q.l.length:Int)))=false)(h2:true=decide (p.l=q.l)):true=p.eq q:=by
 simp at h h2;simp[dB.eq,h,h2]
theorem aj1{p q:dB}(h2:false=decide (p.l=q.l)):false=p.eq q:=by
 simp at h2;simp[dB.eq,h2]
theorem BG{w:World}{y1 y2:dB}(h:y1.ok w)(h':y2.ok w) :
  Calls Tryz.prog 68 #[y1.v,y2.v] w fun e w'=>e = .returned (.bool (y1.eq y2))∧Ext w w':=by
 obtain⟨a,cap,hs⟩:=h.2.2.shape;obtain⟨d,cap',hs'⟩:=h'.2.2.shape;unfold dB.v;have hq:=h.2.2;have hq':=h'.2.2;rw[hs,hs'];rw[hs]at hq;rw[hs']at hq';have hmax:y1.l.length≤9223372036854775807:=h.2.2.len;refine aze Tryz.func68 Tryz.ntmps68 fun S=>azd S fun u b2 E3 hb4 S=>azd S fun u b5 E6 hb7 S=>adr S 22 [] [.mem 1 0,.mem 0 0,.mem 1 1,.mem 0 1,.mem 1 2,.mem 0 2] fun S=>azb S ((((y1.w) != y2.w)||((y1.h) != y2.h))||(((y1.l.length:Int)) != (y2.l.length:Int))) (fun fK S=>?_) (fun fK S=>?_)
 ·refine ay9 S (.z) (fun S=>?_);exact⟨aN (ajZ fK),S.E⟩
 refine azw S (ι:=Nat) (fun p a' w'=>p≤y1.l.length∧(y1.l.take p=y2.l.take p)∧Sx.St w a' w' 45 [(0,.agg #[.i y1.w,.i y1.h,.slice a y1.l.length cap]),(1,.agg #[.i y2.w,.i y2.h,.slice d y2.l.length cap']),(2,.q b2 0),(3,.q b5 0),(4,.z),(5,.i p)] [(b5,[.i y2.w,.i y2.h,.slice d y2.l.length cap']),(b2,[.i y1.w,.i y1.h,.slice a y1.l.length cap])] []) (fun p=>y1.l.length-p) (0) (fun S=>⟨azQ _,rfl,S.sN⟩) ?_;rintro k ac u gW eH hI;try dsimp only at hI
 obtain⟨hk,hR,S⟩:=hI;refine azx S fun S=>adr S 5 [] [.mem 1 2] fun S=>azb S (decide ((k:Int)<(y1.l.length:Int))) (fun hc16 S=>?_) (fun hc16 S=>?_)
 ·have zO:k<y1.l.length:=by have:=azZ hc16; omega
  obtain⟨b20,o21,rfl,oL,hx24,ND,aay⟩:=aAe hq (fun _=>rfl) (k) zO;have S:=S.view0 ND aay;have zQ:k<y2.l.length:=by have:=(adC fK); have:=azZ hc16; omega
  obtain⟨b28,o29,rfl,y34,hx32,adD,adE⟩:=aAe hq' (fun _=>rfl) (k) zQ;have S:=S.view0 adD adE;refine azs S 11 [.mem 1 2,.idx k y1.l.length,.mem 3 0,.mem 0 2,.idx k y2.l.length,.mem 2 0,.cmp .neq 178 (.tmp 38) (.tmp 43) (.agg #[.u (oL.r.toNat:Int),.u (oL.g.toNat:Int),.u (oL.b.toNat:Int),.u (oL.a.toNat:Int)]) (.agg #[.u (y34.r.toNat:Int),.u (y34.g.toNat:Int),.u (y34.b.toNat:Int),.u (y34.a.toNat:Int)]) (.bool (!(((oL.r.toNat:Int)==(y34.r.toNat:Int))&&(((oL.g.toNat:Int)==(y34.g.toNat:Int))&&(((oL.b.toNat:Int)==(y34.b.toNat:Int))&&((oL.a.toNat:Int)==(y34.a.toNat:Int)))))))] [] [(44,.bool (!(((oL.r.toNat:Int)==(y34.r.toNat:Int))&&(((oL.g.toNat:Int)==(y34.g.toNat:Int))&&(((oL.b.toNat:Int)==(y34.b.toNat:Int))&&((oL.a.toNat:Int)==(y34.a.toNat:Int)))))))] trivial (hk:=⟨zO,zQ,azD (fun _=>ah4 ..) (by kernel_rfl),trivial⟩) fun u KP S=>azb S (!(((oL.r.toNat:Int)==(y34.r.toNat:Int))&&(((oL.g.toNat:Int)==(y34.g.toNat:Int))&&(((oL.b.toNat:Int)==(y34.b.toNat:Int))&&((oL.a.toNat:Int)==(y34.a.toNat:Int)))))) (fun qA S=>?_) (fun qA S=>?_)
  ·refine ay9 S (.z) (fun S=>?_);exact⟨aN (aj1 (qW zO zQ (fun e=>by have hq:=qA; rw[hx24,hx32]at e; subst e; simp at hq))),S.E⟩
  refine adr S 3 [] [.re 33 (.i (IntKind.i64.wrap ((k:Int)+1))) (.i (k+1:Nat))] (hk:=⟨azt (by omega),trivial⟩) fun S=>azy S gW (fun S=>?_);exact eH _ _ (k+1) ⟨by omega,(mM zO zQ hR (by rw[hx24,hx32]; exact UK qA)),S.sN⟩ (by show _-_<_-_; omega)
 refine ay9 S (.bool true) (fun S=>?_);exact⟨aN (aj0 fK (qV (by have:=az4 hc16; omega) (adC fK) hR)),S.E⟩
theorem aj2{p q:aS}(h:((((((((p.width) != q.width)||((p.join) != q.join))||((p.cap) != q.cap))||((p.eU) != q.eU))||((p.phase) != q.phase))||((p.dash.length:Int) != (q.dash.length:Int))))=true):false=p.eq q:=by
 symm;rw[Bool.eq_false_iff];intro e;simp only[aS.eq,azY,azU,azW]at e;obtain⟨⟨⟨⟨⟨e1,e2⟩,e3⟩,e4⟩,e5⟩,e6⟩:=e;rw[e1,e2,e3,e4,e5,e6]at h;simp at h
theorem adF{p q:aS}(h:((((((((p.width) != q.width)||((p.join) != q.join))||((p.cap) != q.cap))||((p.eU) != q.eU))||((p.phase) != q.phase))||((p.dash.length:Int) != (q.dash.length:Int))))=false):p.dash.length=q.dash.length:=by
 simp at h; omega
theorem aj3{p q:aS}(h:((((((((p.width) != q.width)||((p.join) != q.join))||((p.cap) != q.cap))||((p.eU) != q.eU))||((p.phase) != q.phase))||((p.dash.length:Int) != (q.dash.length:Int))))=false)(h2:true=decide (p.dash=q.dash)):true=p.eq q:=by
 simp at h h2;simp[aS.eq,h,h2]
theorem aj6{p q:aS}(h2:false=decide (p.dash=q.dash)):false=p.eq q:=by
 simp at h2;simp[aS.eq,h2]
theorem Ia{w:World}{y1 y2:aS}(h:y1.ok w)(h':y2.ok w) :
  Calls Tryz.prog 67 #[y1.v,y2.v] w fun e w'=>e = .returned (.bool (y1.eq y2))∧Ext w w':=by
 obtain⟨a,cap,hs,hcap,hrow⟩:=h.2.2.2.2.1;obtain⟨d,cap',hs',hcap',hrow'⟩:=h'.2.2.2.2.1;unfold aS.v;have hq:=fE (f:=AA) h.2.2.2.2.1;have hq':=fE (f:=AA) h'.2.2.2.2.1;rw[hs,hs'];rw[hs]at hq;rw[hs']at hq';have hmax:y1.dash.length≤9223372036854775807:=hq.len;refine aze Tryz.func67 Tryz.ntmps67 fun S=>azd S fun u b2 E3 hb4 S=>azd S fun u b5 E6 hb7 S=>adr S 43 [] [.mem 1 0,.mem 0 0,.mem 1 1,.mem 0 1,.mem 1 2,.mem 0 2,.mem 1 3,.mem 0 3,.mem 1 5,.mem 0 5,.mem 1 4,.mem 0 4] fun S=>azb S (((((((y1.width) != y2.width)||((y1.join) != y2.join))||((y1.cap) != y2.cap))||((y1.eU) != y2.eU))||((y1.phase) != y2.phase))||(((y1.dash.length:Int)) != (y2.dash.length:Int))) (fun fK S=>?_) (fun fK S=>?_)
 ·refine ay9 S (.z) (fun S=>?_);exact⟨aN (aj2 fK),S.E⟩
 refine azw S (ι:=Nat) (fun p a' w'=>p≤y1.dash.length∧(y1.dash.take p=y2.dash.take p)∧Sx.St w a' w' 66 [(0,.agg #[.i y1.width,.i y1.join,.i y1.cap,.i y1.eU,.slice a y1.dash.length cap,.i y1.phase]),(1,.agg #[.i y2.width,.i y2.join,.i y2.cap,.i y2.eU,.slice d y2.dash.length cap',.i y2.phase]),(2,.q b2 0),(3,.q b5 0),(4,.z),(5,.i p)] [(b5,[.i y2.width,.i y2.join,.i y2.cap,.i y2.eU,.slice d y2.dash.length cap',.i y2.phase]),(b2,[.i y1.width,.i y1.join,.i y1.cap,.i y1.eU,.slice a y1.dash.length cap,.i y1.phase])] []) (fun p=>y1.dash.length-p) (0) (fun S=>⟨azQ _,rfl,S.sN⟩) ?_;rintro k ac u gW eH hI;try dsimp only at hI
 obtain⟨hk,hR,S⟩:=hI;refine azx S fun S=>adr S 5 [] [.mem 1 4] fun S=>azb S (decide ((k:Int)<(y1.dash.length:Int))) (fun hc16 S=>?_) (fun hc16 S=>?_)
 ·have zO:k<y1.dash.length:=by have:=azZ hc16; omega
  obtain⟨b20,o21,rfl,oL,hx24,ND,aay⟩:=aAe hq (fun _=>rfl) (k) zO;have S:=S.view0 ND aay;have zQ:k<y2.dash.length:=by have:=(adF fK); have:=azZ hc16; omega
  obtain⟨b28,o29,rfl,y34,hx32,adD,adE⟩:=aAe hq' (fun _=>rfl) (k) zQ;have S:=S.view0 adD adE;refine azs S 11 [.mem 1 4,.idx k y1.dash.length,.mem 3 0,.mem 0 4,.idx k y2.dash.length,.mem 2 0] [] [(65,.bool ((oL) != y34))] trivial (hk:=⟨zO,zQ,trivial⟩) fun u KP S=>azb S ((oL) != y34) (fun qA S=>?_) (fun qA S=>?_)
  ·refine ay9 S (.z) (fun S=>?_);exact⟨aN (aj6 (qW zO zQ (fun e=>by have hq:=qA; rw[hx24,hx32]at e; subst e; simp at hq))),S.E⟩
  refine adr S 3 [] [.re 54 (.i (IntKind.i64.wrap ((k:Int)+1))) (.i (k+1:Nat))] (hk:=⟨azt (by omega),trivial⟩) fun S=>azy S gW (fun S=>?_);exact eH _ _ (k+1) ⟨by omega,(mM zO zQ hR (by rw[hx24,hx32]; exact abS qA)),S.sN⟩ (by show _-_<_-_; omega)
 refine ay9 S (.bool true) (fun S=>?_);exact⟨aN (aj3 fK (qV (by have:=az4 hc16; omega) (adF fK) hR)),S.E⟩
theorem aqS{p q:ak}(h:Bc p.t.q)(h':Bc q.t.q):(((((((((((p.kind)==q.kind)&&(((p.color.r.toNat:Int)==(q.color.r.toNat:Int))&&(((p.color.g.toNat:Int)==(q.color.g.toNat:Int))&&(((p.color.b.toNat:Int)==(q.color.b.toNat:Int))&&((p.color.a.toNat:Int)==(q.color.a.toNat:Int))))))&&((p.p0.x==q.p0.x)&&(p.p0.y==q.p0.y)))&&((p.p1.x==q.p1.x)&&(p.p1.y==q.p1.y)))&&((p.bT)==q.bT))&&(decide (p.stops=q.stops)))&&((p.spread)==q.spread))&&(p.img.eq q.img))&&((p.cZ)==q.cZ))&&(p.t.q.same q.t.q))=p.eq q:=by
 unfold ak.eq;rw[Q6.same_eq h h'];ac_rfl
theorem NZ{w:World}{p q:ak}{K:Nat}(h:p.ok w)(h':q.ok w)(hf:p.t.fit K)(hf':q.t.fit K)(hK1:1≤K)(hK:K≤10000) :
  Calls Tryz.prog 107 #[p.v,q.v] w fun e w'=>e = .returned (.bool (p.eq q))∧Ext w w':=by
 have hq:=bG.toQ h.2.2.2.2.2.2.2.2.2 hf;have hq':=bG.toQ h'.2.2.2.2.2.2.2.2.2 hf';refine aze Tryz.func107 Tryz.ntmps107 fun S=>azd S fun u b2 E3 hb4 S=>azd S fun u b5 E6 hb7 S=>adr S 1 [] [] fun S=>aAG S 69 [.mem 1 0,.mem 0 0,.mem 1 1,.mem 0 1,.cmp .eql 40 (.tmp 12) (.tmp 14) (.agg #[.u (p.color.r.toNat:Int),.u (p.color.g.toNat:Int),.u (p.color.b.toNat:Int),.u (p.color.a.toNat:Int)]) (.agg #[.u (q.color.r.toNat:Int),.u (q.color.g.toNat:Int),.u (q.color.b.toNat:Int),.u (q.color.a.toNat:Int)]) (.bool (((p.color.r.toNat:Int)==(q.color.r.toNat:Int))&&(((p.color.g.toNat:Int)==(q.color.g.toNat:Int))&&(((p.color.b.toNat:Int)==(q.color.b.toNat:Int))&&((p.color.a.toNat:Int)==(q.color.a.toNat:Int)))))),.mem 1 5,.mem 0 5,.cmp .eql 130 (.tmp 19) (.tmp 21) (.agg #[.i p.p0.x,.i p.p0.y]) (.agg #[.i q.p0.x,.i q.p0.y]) (.bool ((p.p0.x==q.p0.x)&&(p.p0.y==q.p0.y))),.mem 1 7,.mem 0 7,.cmp .eql 130 (.tmp 26) (.tmp 28) (.agg #[.i p.p1.x,.i p.p1.y]) (.agg #[.i q.p1.x,.i q.p1.y]) (.bool ((p.p1.x==q.p1.x)&&(p.p1.y==q.p1.y))),.mem 1 9,.mem 0 9,.mem 1 10,.mem 0 10,.mem 1 11,.mem 0 11,.mem 1 12,.mem 0 12,.mem 1 15,.mem 0 15,.mem 1 16,.mem 0 16] [(_,_,((((((p.kind)==q.kind)&&(((p.color.r.toNat:Int)==(q.color.r.toNat:Int))&&(((p.color.g.toNat:Int)==(q.color.g.toNat:Int))&&(((p.color.b.toNat:Int)==(q.color.b.toNat:Int))&&((p.color.a.toNat:Int)==(q.color.a.toNat:Int))))))&&((p.p0.x==q.p0.x)&&(p.p0.y==q.p0.y)))&&((p.p1.x==q.p1.x)&&(p.p1.y==q.p1.y)))&&((p.bT)==q.bT)),.bool (p.stops=q.stops)),(_,_,((((((((p.kind)==q.kind)&&(((p.color.r.toNat:Int)==(q.color.r.toNat:Int))&&(((p.color.g.toNat:Int)==(q.color.g.toNat:Int))&&(((p.color.b.toNat:Int)==(q.color.b.toNat:Int))&&((p.color.a.toNat:Int)==(q.color.a.toNat:Int))))))&&((p.p0.x==q.p0.x)&&(p.p0.y==q.p0.y)))&&((p.p1.x==q.p1.x)&&(p.p1.y==q.p1.y)))&&((p.bT)==q.bT))&&(decide (p.stops=q.stops)))&&((p.spread)==q.spread)),.bool (p.img.eq q.img)),(_,_,((((((((((p.kind)==q.kind)&&(((p.color.r.toNat:Int)==(q.color.r.toNat:Int))&&(((p.color.g.toNat:Int)==(q.color.g.toNat:Int))&&(((p.color.b.toNat:Int)==(q.color.b.toNat:Int))&&((p.color.a.toNat:Int)==(q.color.a.toNat:Int))))))&&((p.p0.x==q.p0.x)&&(p.p0.y==q.p0.y)))&&((p.p1.x==q.p1.x)&&(p.p1.y==q.p1.y)))&&((p.bT)==q.bT))&&(decide (p.stops=q.stops)))&&((p.spread)==q.spread))&&(p.img.eq q.img))&&((p.cZ)==q.cZ)),.bool (p.t.q.same q.t.q))] [(4,.bool (((((((((((p.kind)==q.kind)&&(((p.color.r.toNat:Int)==(q.color.r.toNat:Int))&&(((p.color.g.toNat:Int)==(q.color.g.toNat:Int))&&(((p.color.b.toNat:Int)==(q.color.b.toNat:Int))&&((p.color.a.toNat:Int)==(q.color.a.toNat:Int))))))&&((p.p0.x==q.p0.x)&&(p.p0.y==q.p0.y)))&&((p.p1.x==q.p1.x)&&(p.p1.y==q.p1.y)))&&((p.bT)==q.bT))&&(decide (p.stops=q.stops)))&&((p.spread)==q.spread))&&(p.img.eq q.img))&&((p.cZ)==q.cZ))&&(p.t.q.same q.t.q)))] ⟨fun u hC g=>Rq (l:=p.stops) (m:=q.stops) (h.2.2.2.2.1.below (Ext.trans' S.E hC)) (h'.2.2.2.2.1.below (Ext.trans' S.E hC)),fun u hC g=>BG (y1:=p.img) (y2:=q.img) (h.2.2.2.2.2.2.2.1.below (Ext.trans' S.E hC)) (h'.2.2.2.2.2.2.2.1.below (Ext.trans' S.E hC)),fun u hC g=>BA (t:=p.t) (t2:=q.t) (hq.iJ (Ext.trans' S.E hC)) (hq'.iJ (Ext.trans' S.E hC)) hK1 hK,trivial⟩ (hk:=⟨azD (fun _=>acM ..) (by kernel_rfl),azD (fun _=>eqPt ..) (by kernel_rfl),azD (fun _=>eqPt ..) (by kernel_rfl),trivial⟩) fun u E9 S=>ay9 S (.bool (((((((((((p.kind)==q.kind)&&(((p.color.r.toNat:Int)==(q.color.r.toNat:Int))&&(((p.color.g.toNat:Int)==(q.color.g.toNat:Int))&&(((p.color.b.toNat:Int)==(q.color.b.toNat:Int))&&((p.color.a.toNat:Int)==(q.color.a.toNat:Int))))))&&((p.p0.x==q.p0.x)&&(p.p0.y==q.p0.y)))&&((p.p1.x==q.p1.x)&&(p.p1.y==q.p1.y)))&&((p.bT)==q.bT))&&(decide (p.stops=q.stops)))&&((p.spread)==q.spread))&&(p.img.eq q.img))&&((p.cZ)==q.cZ))&&(p.t.q.same q.t.q))) (fun S=>?_);exact⟨aN (aqS hq.nrm hq'.nrm),S.E⟩
theorem vH{w:World}{v u:Value}{l m:List ak}(h:iV w v l)(h':iV w u m)(hf:∀p∈l,p.t.fit K)(hf':∀p∈m,p.t.fit K)(hK1:1≤K)(hK:K≤10000) :
  Calls Tryz.prog 66 #[v,u] w fun e w'=>e = .returned (.bool (bU l m))∧Ext w w':=by
 obtain⟨a,cap,rfl⟩:=h.1.shape;obtain⟨d,cap',rfl⟩:=h'.1.shape;have hmax:l.length≤9223372036854775807:=h.1.len;refine aze Tryz.func66 Tryz.ntmps66 fun S=>azb S (((l.length:Int)) != (m.length:Int)) (fun hc4 S=>?_) (fun hc4 S=>?_)
 ·refine ay9 S (.z) (fun S=>?_);exact⟨aN (adA hc4),S.E⟩
 refine azw S (ι:=Nat) (fun p a' w'=>p≤l.length∧(((l.zip m).take p).all (fun p=>p.1.eq p.2)=true)∧Sx.St w a' w' 27 [(0,.slice a l.length cap),(1,.slice d m.length cap'),(4,.z),(5,.i p)] [] []) (fun p=>l.length-p) (0) (fun S=>⟨azQ _,rfl,S.sN⟩) ?_;rintro k ac u gW eH hI;try dsimp only at hI
 obtain⟨hk,hR,S⟩:=hI;refine azx S fun S=>azb S (decide ((k:Int)<(l.length:Int))) (fun fK S=>?_) (fun fK S=>?_)
 ·have nY:k<l.length:=by have:=azZ fK; omega
  obtain⟨b14,o15,rfl,x20,uD,vU,Nj⟩:=aAe h.1 (fun _=>rfl) (k) nY;have S:=S.view0 vU Nj;have lH:k<m.length:=by have:=lF hc4; have:=azZ fK; omega
  obtain⟨b22,o23,rfl,y28,qE,JK,NY⟩:=aAe h'.1 (fun _=>rfl) (k) lH;have S:=S.view0 JK NY;refine azs S 10 [.idx k l.length,.mem 1 0,.idx k m.length,.mem 0 0] [(_,_,true,.bool (x20.eq y28))] [(26,.bool (!(x20.eq y28)))] ⟨fun u hC g=>NZ (K:=K) (p:=x20) (q:=y28) ((h.2 _ (uD▸aAc nY)).below (Ext.trans' S.E hC)) ((h'.2 _ (qE▸aAc lH)).below (Ext.trans' S.E hC)) (hf _ (uD▸aAc nY)) (hf' _ (qE▸aAc lH)) hK1 hK,trivial⟩ (hk:=⟨nY,lH,trivial⟩) fun u EM S=>azb S (!(x20.eq y28)) (fun zL S=>?_) (fun zL S=>?_)
  ·refine ay9 S (.z) (fun S=>?_);exact⟨aN (adB nY lH (by rw[uD,qE]; exact zL)),S.E⟩
  refine adr S 3 [] [.re 16 (.i (IntKind.i64.wrap ((k:Int)+1))) (.i (k+1:Nat))] (hk:=⟨azt (by omega),trivial⟩) fun S=>azy S gW (fun S=>?_);exact eH _ _ (k+1) ⟨by omega,(Ro nY lH hR (by rw[uD,qE]; exact zL)),S.sN⟩ (by show _-_<_-_; omega)
 refine ay9 S (.bool true) (fun S=>?_);exact⟨aN (Yn (by have:=az4 fK; omega) (lF hc4) hR),S.E⟩
def aj.eqR(a b:aj):Bool:=cond ((((((((a.id) != b.id)||((a.kind) != b.kind))||((a.depth) != b.depth))||(!(a.t.q.same b.t.q)))||((a.aP) != b.aP))||((a.aT) != b.aT))||((a.cZ) != b.cZ)) (false) (cond ((((((a.dQ.toNat:Int)) != (b.dQ.toNat:Int))||((a.blend) != b.blend))||(!(a.isolated==b.isolated)))||(!(a.dF==b.dF))) (false) ((((((decide (a.clip=b.clip))&&(decide (a.path=b.path)))&&(bU a.fill b.fill))&&(bU a.stroke b.stroke))&&(a.style.eq b.style))&&(a.img.eq b.img)))
theorem N7{w:World}{a b:aj}(h:eu K w a)(h':eu K w b) :
  Calls Tryz.prog 37 #[a.v,b.v] w fun e w'=>e = .returned (.bool (aj.eqR a b))∧Ext w w':=by
 skip;refine aze Tryz.func37 Tryz.ntmps37 fun S=>azd S fun u b2 E3 hb4 S=>azd S fun u b5 E6 hb7 S=>adr S 1 [] [] fun S=>aAG S 48 [.mem 1 0,.mem 0 0,.mem 1 1,.mem 0 1,.mem 1 2,.mem 0 2,.mem 1 3,.mem 0 3,.mem 1 28,.mem 0 28,.mem 1 34,.mem 0 34,.mem 1 46,.mem 0 46] [(_,_,(!((((a.id) != b.id)||((a.kind) != b.kind))||((a.depth) != b.depth))),.bool (a.t.q.same b.t.q))] [(52,.bool ((((((((a.id) != b.id)||((a.kind) != b.kind))||((a.depth) != b.depth))||(!(a.t.q.same b.t.q)))||((a.aP) != b.aP))||((a.aT) != b.aT))||((a.cZ) != b.cZ)))] ⟨fun u hC g=>BA (t:=a.t) (t2:=b.t) ((bG.toQ h.1.2.2.2.1 h.2.1).iJ (Ext.trans' S.E hC)) ((bG.toQ h'.1.2.2.2.1 h'.2.1).iJ (Ext.trans' S.E hC)) h.2.2.2.2.1 h.2.2.2.2.2,trivial⟩ fun u Uw S=>azb S ((((((((a.id) != b.id)||((a.kind) != b.kind))||((a.depth) != b.depth))||(!(a.t.q.same b.t.q)))||((a.aP) != b.aP))||((a.aT) != b.aT))||((a.cZ) != b.cZ)) (fun gU S=>?_) (fun gU S=>?_)
 ·have p0:=gU;refine ay9 S (.z) (fun S=>?_);exact⟨aN (by unfold aj.eqR; simp only[p0,cond_true,cond_false]),S.E⟩
 refine adr S 26 [] [.mem 1 29,.mem 0 29,.mem 1 30,.mem 0 30,.mem 1 31,.mem 0 31,.mem 1 32,.mem 0 32] fun S=>azb S ((((((a.dQ.toNat:Int)) != (b.dQ.toNat:Int))||((a.blend) != b.blend))||(!(a.isolated==b.isolated)))||(!(a.dF==b.dF))) (fun yD S=>?_) (fun yD S=>?_)
 ·have p0:=gU;have p1:=yD;refine ay9 S (.z) (fun S=>?_);exact⟨aN (by unfold aj.eqR; simp only[p0,p1,cond_true,cond_false]),S.E⟩
 refine adr S 4 [] [.mem 1 27,.mem 0 27] fun S=>azp S (BF (l:=a.clip) (m:=b.clip) (h.1.2.2.2.2.1.1.below S.E) (h'.1.2.2.2.2.1.1.below S.E)) fun u yV S=>aAG S 36 [.mem 1 33,.mem 0 33,.mem 1 35,.mem 0 35,.mem 1 42,.mem 0 42,.mem 1 36,.mem 0 36,.mem 1 43,.mem 0 43] [(_,_,(decide (a.clip=b.clip)),.bool (a.path=b.path)),(_,_,((decide (a.clip=b.clip))&&(decide (a.path=b.path))),.bool (bU a.fill b.fill)),(_,_,(((decide (a.clip=b.clip))&&(decide (a.path=b.path)))&&(bU a.fill b.fill)),.bool (bU a.stroke b.stroke)),(_,_,((((decide (a.clip=b.clip))&&(decide (a.path=b.path)))&&(bU a.fill b.fill))&&(bU a.stroke b.stroke)),.bool (a.style.eq b.style)),(_,_,(((((decide (a.clip=b.clip))&&(decide (a.path=b.path)))&&(bU a.fill b.fill))&&(bU a.stroke b.stroke))&&(a.style.eq b.style)),.bool (a.img.eq b.img))] [(4,.bool ((((((decide (a.clip=b.clip))&&(decide (a.path=b.path)))&&(bU a.fill b.fill))&&(bU a.stroke b.stroke))&&(a.style.eq b.style))&&(a.img.eq b.img)))] ⟨fun u hC g=>BF (l:=a.path) (m:=b.path) (h.1.2.2.2.2.2.2.2.1.1.below (Ext.trans' S.E hC)) (h'.1.2.2.2.2.2.2.2.1.1.below (Ext.trans' S.E hC)),fun u hC g=>vH (l:=a.fill) (m:=b.fill) (K:=K) (h.1.2.2.2.2.2.2.2.2.2.1.below (Ext.trans' S.E hC)) (h'.1.2.2.2.2.2.2.2.2.2.1.below (Ext.trans' S.E hC)) h.2.2.1 h'.2.2.1 h.2.2.2.2.1 h.2.2.2.2.2,fun u hC g=>vH (l:=a.stroke) (m:=b.stroke) (K:=K) (h.1.2.2.2.2.2.2.2.2.2.2.2.1.below (Ext.trans' S.E hC)) (h'.1.2.2.2.2.2.2.2.2.2.2.2.1.below (Ext.trans' S.E hC)) h.2.2.2.1 h'.2.2.2.1 h.2.2.2.2.1 h.2.2.2.2.2,fun u hC g=>Ia (y1:=a.style) (y2:=b.style) (h.1.2.2.2.2.2.2.2.2.2.2.1.below (Ext.trans' S.E hC)) (h'.1.2.2.2.2.2.2.2.2.2.2.1.below (Ext.trans' S.E hC)),fun u hC g=>BG (y1:=a.img) (y2:=b.img) (h.1.2.2.2.2.2.2.2.2.2.2.2.2.1.below (Ext.trans' S.E hC)) (h'.1.2.2.2.2.2.2.2.2.2.2.2.2.1.below (Ext.trans' S.E hC)),trivial⟩ (fun u KP S=>?_);have p0:=gU;have p1:=yD;refine ay9 S (.bool ((((((decide (a.clip=b.clip))&&(decide (a.path=b.path)))&&(bU a.fill b.fill))&&(bU a.stroke b.stroke))&&(a.style.eq b.style))&&(a.img.eq b.img))) (fun S=>?_);exact⟨aN (by unfold aj.eqR; simp only[p0,p1,cond_true,cond_false]),S.E⟩
end
section
variable{K:Nat}
instance avA:DecidableEq Q6:=fun P Q=>decidable_of_iff (P.a=Q.a∧P.b=Q.b∧P.c=Q.c∧P.d=Q.d∧P.e=Q.e∧P.f=Q.f) (by
 obtain⟨a,b,c,d,e,f⟩:=P;obtain⟨a',b',c',d',e',f'⟩:=Q;simp)
structure og where
 w:Int
 h:Int
 l:List bC
deriving DecidableEq
structure jc where
 kind:Int
 color:bC
 p0:jS
 p1:jS
 bT:Int
 stops:List dH
 spread:Int
 img:og
 cZ:Int
 q:Q6
deriving DecidableEq
structure kC where
 width:Int
 join:Int
 cap:Int
 eU:Int
 dash:List Int
 phase:Int
deriving DecidableEq
structure aQ where
 id:Int
 kind:Int
 depth:Int
 q:Q6
 clip:List dM
 aP:Int
 dQ:UInt8
 blend:Int
 isolated:Bool
 dF:Bool
 path:List dM
 aT:Int
 fill:List jc
 style:kC
 stroke:List jc
 img:og
 cZ:Int
deriving DecidableEq
def dB.key(m:dB):og:=⟨m.w,m.h,m.l⟩
def ak.key(p:ak):jc:=⟨p.kind,p.color,p.p0,p.p1,p.bT,p.stops,p.spread,p.img.key,p.cZ,p.t.q⟩
def aS.key(p:aS):kC:=⟨p.width,p.join,p.cap,p.eU,p.dash,p.phase⟩
def aj.key(n:aj):aQ:=⟨n.id,n.kind,n.depth,n.t.q,n.clip,n.aP,n.dQ,n.blend,n.isolated,n.dF,n.path,n.aT,n.fill.map ak.key,n.style.key,n.stroke.map ak.key,n.img.key,n.cZ⟩
theorem Dk{a b:UInt8}:(a.toNat:Int)=(b.toNat:Int)↔a=b:=⟨FZ,fun h=>by rw[h]⟩
theorem Yo{a b:bC}:(a.r=b.r∧a.g=b.g∧a.b=b.b∧a.a=b.a)↔a=b:=by cases a; cases b; simp
theorem aj7{a b:jS}:(a.x=b.x∧a.y=b.y)↔a=b:=by cases a; cases b; simp
theorem N8(m n:dB):m.eq n=decide (m.key=n.key):=by
 rw[aAV]; simp[dB.eq,dB.key]
theorem Yp(p q:aS):p.eq q=decide (p.key=q.key):=by
 rw[aAV]; simp only[aS.eq,aS.key,kC.mk.injEq,azY,azU,azW,and_assoc];constructor
 ·rintro⟨h1,h2,h3,h4,h5,h6⟩; exact⟨h1,h2,h3,h4,h6,h5⟩
 rintro⟨h1,h2,h3,h4,h5,h6⟩; exact⟨h1,h2,h3,h4,h6,h5⟩
theorem Yq(P Q:Q6):P.same Q=decide (P=Q):=by
 obtain⟨a,b,c,d,e,f⟩:=P;obtain⟨a',b',c',d',e',f'⟩:=Q;rw[aAV]; simp[Q6.same]
theorem ain{P Q:Q6}(hp:Bc P)(hq:Bc Q):P.eq Q=decide (P=Q):=by rw[←Q6.same_eq hp hq,Yq]
theorem ak.aj8{p q:ak}(hp:Bc p.t.q)(hq:Bc q.t.q):p.eq q=decide (p.key=q.key):=by
 rw[aAV];unfold ak.eq;rw[ain hp hq,N8];simp only[azY,azU,azW,Dk,Yo,aj7,ak.key,jc.mk.injEq,and_assoc];constructor
 ·rintro⟨h1,h2,h3,h4,h5,h6,h7,h8,h9,h10⟩; exact⟨h1,h2,h3,h4,h5,h8,h6,h9,h7,h10⟩
 rintro⟨h1,h2,h3,h4,h5,h6,h7,h8,h9,h10⟩; exact⟨h1,h2,h3,h4,h5,h7,h9,h6,h8,h10⟩
def agF(l:List ak):Prop:=∀p∈l,Bc p.t.q
theorem nP:∀{l m:List ak},agF l→agF m→bU l m=decide (l.map ak.key=m.map ak.key)
 | [],[],_,_=>by simp[bU]
 | [],y::m,_,_=>by simp[bU]
 | x::l,[],_,_=>by simp[bU]
 | x::l,y::m,hl,hm=>by
  have ih:=nP (l:=l) (m:=m) (fun p hp=>hl p (aAT _ hp)) (fun p hp=>hm p (aAT _ hp))
  have e:=ak.aj8 (hl x azV) (hm y azV)
  rw[aAV]at ih e ⊢
  simp only[bU,aAn,Nat.add_right_cancel_iff,List.zip_cons_cons,List.all_cons,aAu,aAf,azY,azW]at ih e ⊢
  rw[e,←ih]
  constructor
  ·rintro⟨h1,h2,h3⟩; exact⟨h2,h1,h3⟩
  ·rintro⟨h1,h2,h3⟩; exact⟨h2,h1,h3⟩
def aj.nrm(n:aj):Prop:=Bc n.t.q∧agF n.fill∧agF n.stroke
theorem eu.nrm{w:World}{n:aj}(h:eu K w n):n.nrm:=
 ⟨(bG.toQ h.1.2.2.2.1 h.2.1).nrm,fun p hp=>(bG.toQ (h.1.2.2.2.2.2.2.2.2.2.1.2 p hp).2.2.2.2.2.2.2.2.2 (h.2.2.1 p hp)).nrm,fun p hp=>(bG.toQ (h.1.2.2.2.2.2.2.2.2.2.2.2.1.2 p hp).2.2.2.2.2.2.2.2.2 (h.2.2.2.1 p hp)).nrm⟩
theorem Rt{a b:Bool}:cond a false b=(!a&&b):=by cases a<;>rfl
theorem agG{a b:aj}(ha:a.nrm)(hb:b.nrm):a.eqP b=decide (a.key=b.key):=by
 rw[aAV];unfold aj.eqP;rw[ain ha.1 hb.1,nP ha.2.1 hb.2.1,nP ha.2.2 hb.2.2,N8,Yp];simp only[Rt,azY,aBi,aAz,bne_eq_false_iff_eq,aA3,azU,azW,Dk,aj.key,aQ.mk.injEq,and_assoc];constructor
 ·rintro⟨h1,h2,h3,h4,h5,h6,h7,h8,h9,h10,h11,h12,h13,JY,h15,h16,h17⟩; exact⟨h1,h2,h3,h11,h12,h4,h5,h6,h7,h8,h13,h9,JY,h16,h15,h17,h10⟩
 rintro⟨h1,h2,h3,h11,h12,h4,h5,h6,h7,h8,h13,h9,JY,h16,h15,h17,h10⟩; exact⟨h1,h2,h3,h4,h5,h6,h7,h8,h9,h10,h11,h12,h13,JY,h15,h16,h17⟩
theorem agH{a b:aj}(ha:a.nrm)(hb:b.nrm):a.eqR b=decide (a.key=b.key):=by
 rw[aAV];unfold aj.eqR;rw[Yq,nP ha.2.1 hb.2.1,nP ha.2.2 hb.2.2,N8,Yp];simp only[Rt,azY,aBi,aAz,bne_eq_false_iff_eq,aA3,azU,azW,Dk,aj.key,aQ.mk.injEq,and_assoc];constructor
 ·rintro⟨h1,h2,h3,h11,h4,h9,h10,h5,h6,h7,h8,h12,h13,JY,h15,h16,h17⟩; exact⟨h1,h2,h3,h11,h12,h4,h5,h6,h7,h8,h13,h9,JY,h16,h15,h17,h10⟩
 rintro⟨h1,h2,h3,h11,h12,h4,h5,h6,h7,h8,h13,h9,JY,h16,h15,h17,h10⟩; exact⟨h1,h2,h3,h11,h4,h9,h10,h5,h6,h7,h8,h12,h13,JY,h15,h16,h17⟩
end
section
theorem aaz{p q:ak}(h:p.key=q.key):p.valid=q.valid:=by
 obtain⟨k,c,p0,p1,r,sva,svc,st,sp,⟨iw,ih,isa,isc,il⟩,sm,t⟩:=p;obtain⟨k',c',p0',p1',r',aqT,aqU,st',sp',⟨iw',ih',aqV,aqW,il'⟩,sm',t'⟩:=q;simp only[ak.key,dB.key,jc.mk.injEq,og.mk.injEq]at h;obtain⟨rfl,rfl,rfl,rfl,rfl,rfl,rfl,⟨rfl,rfl,rfl⟩,rfl,ht⟩:=h;have hw:∀(b:ak),(ak.without ⟨k,c,p0,p1,r,sva,svc,st,sp,⟨iw,ih,isa,isc,il⟩,sm,t⟩).eq b=(ak.without ⟨k,c,p0,p1,r,aqT,aqU,st,sp,⟨iw,ih,aqV,aqW,il⟩,sm,t'⟩).eq b:=by
  intro b;unfold ak.without;simp only;cases k==1<;>cases k==2<;>cases k==3<;>cases k==4<;>simp only[cond_true,cond_false,ak.ac2,ak.only2,ak.ac3,ak.ac4,ak.ac5,ak.eq]<;>rfl
 unfold ak.valid;simp only[hw,ht];rfl
theorem zS:∀{l m:List ak},l.map ak.key=m.map ak.key→l.all ak.valid=m.all ak.valid
 | [],[],_=>rfl
 | [],_::_,h=>by cases h
 | _::_,[],h=>by cases h
 | x::l,y::m,h=>by
  simp only[aAu,aAf]at h
  rw[List.all_cons,List.all_cons,aaz h.1,zS h.2]
theorem VK{a b:aj}(h:a.key=b.key):a.checkN=b.checkN:=by
 simp only[aj.key,aS.key,dB.key,aQ.mk.injEq,kC.mk.injEq,og.mk.injEq]at h;obtain⟨h1,h2,h3,h4,h5,h6,h7,h8,h9,h10,h11,h12,h13,⟨s1,s2,s3,s4,s5,s6⟩,h15,⟨i1,i2,i3⟩,h17⟩:=h;have l1:a.fill.length=b.fill.length:=by have:=azT List.length h13; simpa using this
 have l2:a.stroke.length=b.stroke.length:=by have:=azT List.length h15; simpa using this
 have hs:∀p:aS,a.style.eq p=b.style.eq p:=fun p=>by unfold aS.eq; rw[s1,s2,s3,s4,s5,s6]
 have hi:∀m:dB,a.img.eq m=b.img.eq m:=fun m=>by unfold dB.eq; rw[i1,i2,i3]
 have hb:a.bare=b.bare:=by unfold aj.bare; rw[hs,hi,h2,h7,h8,h9,h10,h11,h12,h17,l1,l2]
 have hsv:a.style.valid=b.style.valid:=by unfold aS.valid; rw[s1,s2,s3,s4,s5,s6]
 have hiv:a.img.valid=b.img.valid:=by unfold dB.valid dB.size; rw[i1,i2,i3]
 have hc:a.jP=b.jP:=by unfold aj.jP; rw[hb,h1,h2,h3,h4,h5,h6]
 have hsh:a.su=b.su:=by unfold aj.su; rw[h11,h12,l1,l2,hsv,hs,zS h13,zS h15]
 unfold aj.checkN aj.qP;rw[hc,hsh,h2,h8,hiv,h17]
open Classical in
noncomputable def aQ.chk(κ:aQ):Int:=if h:∃n:aj,n.key=κ then h.choose.checkN else 1
theorem kZ(n:aj):n.key.chk=n.checkN:=by
 have h:∃m:aj,m.key=n.key:=⟨n,rfl⟩;unfold aQ.chk;rw[dif_pos h];exact VK h.choose_spec
theorem qF:∀{l:List (Bool×Int)},(∀p∈l,p.2≠0)→mW l=0→∀p∈l,p.1=false
 | [],_,_,p,hp=>by cases hp
 | q::l,h,h0,p,hp=>by
  unfold mW at h0
  split at h0
  ·exact absurd h0 (h q azV)
  ·rename_i hq
   rcases azS.1 hp with rfl | hp
   ·simpa using hq
   ·exact qF (fun p hp=>h p (aAT _ hp)) h0 p hp
theorem JZ(n:aj):∀p∈n.jP,p.2≠0:=by
 intro p hp;simp only[aj.jP,azS,aBG,or_false]at hp;rcases hp with rfl | rfl | rfl | rfl | rfl | rfl
 ·exact(by decide:(2:Int)≠0)
 ·exact(by decide:(6:Int)≠0)
 ·exact(by decide:(5:Int)≠0)
 ·exact(by decide:(9:Int)≠0)
 ·exact(by decide:(10:Int)≠0)
 exact(by decide:(17:Int)≠0)
theorem Eb{n:aj}(h:n.checkN=0):badL n.jP=false∧n.qP=0:=by
 unfold aj.checkN at h;cases hb:badL n.jP
 ·rw[hb]at h; exact⟨rfl,h⟩
 rw[hb,cond_true]at h;have:=qF (JZ n) h;unfold badL at hb;obtain⟨p,hp,hp2⟩:=List.any_eq_true.1 hb;rw[this p hp]at hp2;cases hp2
theorem BH{n:aj}(h:n.checkN=0):1≤n.kind∧n.kind≤3∧1≤n.id∧n.id≤1073741824∧0≤n.depth∧n.depth<8:=by
 have hb:=(Eb h).1;simp only[badL,aj.jP,List.any_cons,aAz,aAk]at hb;obtain⟨⟨h1,h2⟩,⟨⟨⟨h3,h4⟩,h5⟩,h6⟩,_⟩:=hb;omega
end
section
def wL(f:Nat→Int)(d:Int):Nat→Nat→Nat
 | 0,k=>k
 | m+1,k=>if d<f k then wL f d m (k+1)else k
def J4(n:Nat)(f:Nat→Int)(i:Nat):Nat:=wL f (f i) (n-(i+1)) (i+1)
theorem Ib{f:Nat→Int}{d:Int}:∀(m k:Nat),k≤wL f d m k∧wL f d m k≤k+m∧(∀j,k≤j→j<wL f d m k→d<f j)∧(wL f d m k<k+m→f (wL f d m k)≤d)
 | 0,k=>by simp[wL]; intro j h1 h2; omega
 | m+1,k=>by
  unfold wL
  split
  ·rename_i h
   obtain⟨h1,h2,h3,h4⟩:=Ib (f:=f) (d:=d) m (k+1)
   refine⟨by omega,by omega,fun j hj1 hj2=>?_,fun hl=>h4 (by omega)⟩
   by_cases hk:j=k
   ·rw[hk]; exact h
   ·exact h3 j (by omega) hj2
  ·rename_i h
   exact⟨azJ _,by omega,fun j h1 h2=>by omega,fun _=>by omega⟩
theorem aaA{n i:Nat}{f:Nat→Int}(hi:i<n):i<J4 n f i∧J4 n f i≤n∧(∀j,i<j→j<J4 n f i→f i<f j)∧(J4 n f i<n→f (J4 n f i)≤f i):=by
 obtain⟨h1,h2,h3,h4⟩:=Ib (f:=f) (d:=f i) (n-(i+1)) (i+1);unfold J4;exact⟨by omega,by omega,fun j hj=>h3 j (by omega),fun h=>h4 (by omega)⟩
theorem Yr{n i k:Nat}{f:Nat→Int}(hi:i<n)(h1:i<k)(h2:k≤n)(h3:∀j,i<j→j<k→f i<f j)(h4:k<n→f k≤f i):J4 n f i=k:=by
 obtain⟨e1,e2,e3,e4⟩:=aaA (f:=f) hi;rcases aCe (J4 n f i) k with h | h | h
 ·have:=e4 (by omega); have:=h3 _ e1 h; omega
 ·exact h
 have:=h4 (by omega); have:=e3 k h1 h; omega
structure bD where
 w:Int
 h:Int
 bg:bC
 ns:List aQ
deriving DecidableEq
structure bZ where
 kind:Int
 id:Int
 index:Int
 depth:Int
 node:aQ
 color:bC
deriving DecidableEq
def bD.zero:bD:=⟨0,0,bC.none,[]⟩
def aQ.zero:aQ:=bK.key
def ET(l:List aQ)(k:Nat):Int:=((l[k]?).map aQ.depth).getD 0
def nC(l:List aQ)(id:Int):Option Nat:=l.findIdx? fun κ=>κ.id==id
def wM(l:List aQ)(id:Int):Int:=match nC l id with | some i=>i | none => -1
def Ec(pre:List aQ):Int:=match pre.getLast? with | none=>0 | some p=>if p.kind=1 then p.depth+1 else p.depth
noncomputable def jQ(pre:List aQ)(x:aQ):Int:=
 if x.chk≠0 then x.chk else if pre.any (fun κ=>κ.id==x.id)then 7 else if x.depth≤Ec pre then 0 else 17
noncomputable def jR(pre:List aQ):List aQ→Int×Int
 | []=>(0,0)
 | x::r=>if jQ pre x=0 then jR (pre++[x]) r else (jQ pre x,pre.length)
noncomputable def bD.chk(s:bD):Int×Int:=
 if s.w<1∨256<s.w∨s.h<1∨256<s.h then (6,0)else if 64<s.ns.length then (5,64)else jR [] s.ns
noncomputable def bD.valid(s:bD):Bool:=s.chk.1==0
def BI(pre:List aQ):List aQ→Prop
 | []=>True
 | x::r=>jQ pre x=0∧BI (pre++[x]) r
abbrev VL (l:List aQ):Prop:=BI [] l
theorem BJ:∀{l pre:List aQ},(jR pre l).1=0↔BI pre l
 | [],pre=>by simp[jR,BI]
 | x::r,pre=>by
  unfold jR BI
  split
  ·rename_i h; rw[BJ]; simp[h]
  ·rename_i h; simp[h]
theorem BI.chk:∀{l pre:List aQ},BI pre l→jR pre l=(0,0)
 | [],pre,_=>rfl
 | x::r,pre,h=>by unfold jR; rw[azI h.1]; exact h.2.chk
theorem bD.nD{s:bD}:s.valid=true↔(1≤s.w∧s.w≤256∧1≤s.h∧s.h≤256)∧s.ns.length≤64∧VL s.ns:=by
 unfold bD.valid bD.chk;rw[azU];split
 ·rename_i h; constructor
  ·intro h2; cases h2
  rintro⟨h2,_⟩; omega
 split
 ·constructor
  ·intro h2; cases h2
  rintro⟨_,h2,_⟩; omega
 rw[BJ];constructor
 ·intro h2; exact⟨by omega,by omega,h2⟩
 rintro⟨_,_,h2⟩; exact h2
theorem Ed{pre:List aQ}{x:aQ}:jQ pre x=0↔x.chk=0∧(∀κ∈pre,κ.id≠x.id)∧x.depth≤Ec pre:=by
 unfold jQ;split
 ·rename_i h; exact⟨fun h2=>absurd h2 h,fun h2=>absurd h2.1 h⟩
 rename_i h;split
 ·rename_i h2;obtain⟨κ,h3,h4⟩:=List.any_eq_true.1 h2;exact⟨fun h5=>absurd h5 (by decide),fun h5=>absurd (by simpa using h4) (h5.2.1 κ h3)⟩
 rename_i h2;have h3:∀κ∈pre,κ.id≠x.id:=fun κ hκ he=>h2 (List.any_eq_true.2 ⟨κ,hκ,by simpa using he⟩);split
 ·rename_i h4; exact⟨fun _=>⟨by simpa using h,h3,h4⟩,fun _=>rfl⟩
 rename_i h4; exact⟨fun h5=>absurd h5 (by decide),fun h5=>absurd h5.2.2 h4⟩
theorem Lc:∀{l pre:List aQ},BI pre l↔∀a x b,l=a++x::b→jQ (pre++a) x=0
 | [],pre=>⟨fun _ a x b h=>by simp at h,fun _=>trivial⟩
 | y::r,pre=>by
  unfold BI
  rw[Lc (l:=r)]
  constructor
  ·rintro⟨h1,h2⟩ a x b h
   cases a with
   | nil =>
    simp only[aAH,aAf]at h
    rw[aAL,←h.1]; exact h1
   | cons z a =>
    simp only[aA0,aAf]at h
    rw[h.1]at h2
    rw[show pre++z::a=(pre++[z])++a by simp]
    exact h2 a x b h.2
  ·intro h
   refine⟨by simpa using h [] y r rfl,fun a x b e=>?_⟩
   rw[show(pre++[y])++a=pre++y::a by simp]
   exact h (y::a) x b (by rw[e]; rfl)
theorem VN{l:List aQ}:VL l↔(∀x∈l,x.chk=0)∧(l.map aQ.id).Nodup∧∀a x b,l=a++x::b→x.depth≤Ec a:=by
 unfold VL;rw[Lc];simp only[aAH,Ed];constructor
 ·intro h;refine⟨fun x hx=>?_,?_,fun a x b e=>(h a x b e).2.2⟩
  ·obtain⟨a,b,e⟩:=List.append_of_mem hx;exact(h a x b e).1
  rw[List.nodup_iff_pairwise_ne];rw[List.pairwise_map];have key:∀(l pre:List aQ),(∀a x b,l=a++x::b→∀κ∈pre++a,κ.id≠x.id)→List.Pairwise (fun a b:aQ=>a.id≠b.id) l:=by
   intro l;induction l with
   | nil=>intro _ _; exact List.Pairwise.nil
   | cons y r ih =>
    intro pre h;refine List.Pairwise.cons (fun z hz=>?_) (ih (pre++[y]) fun a x b e κ hκ=>h (y::a) x b (by rw[e]; rfl) κ (by simpa using hκ));obtain⟨a,b,e⟩:=List.append_of_mem hz;exact h (y::a) z b (by rw[e]; rfl) y (by simp)
  exact key l [] fun a x b e κ hκ=>(h a x b e).2.1 κ (by simpa using hκ)
 rintro⟨h1,h2,h3⟩ a x b e;refine⟨h1 x (by rw[e]; simp),fun κ hκ he=>?_,h3 a x b e⟩;rw[e,aAB,aAu,aBd]at h2;exact h2.2.2 κ.id (az9.2 ⟨κ,hκ,rfl⟩) x.id azV he
theorem Yt{l:List aQ}{k:Nat}(h:k<l.length):ET l k=l[k].depth:=by simp[ET,List.getElem?_eq_getElem h]
theorem bD.aaB{s:bD}(h:s.valid=true):s.chk=(0,0):=by
 obtain⟨h1,h2,h3⟩:=bD.nD.1 h;unfold bD.chk;rw[azG (by omega),azG (by omega)];exact h3.chk
theorem Ic{l:List aQ}{id:Int}{i:Nat}(h:nC l id=some i):∃hi:i<l.length,l[i].id=id:=by
 unfold nC at h;obtain⟨h1,h2,_⟩:=List.findIdx?_eq_some_iff_getElem.1 h;exact⟨h1,by simpa using h2⟩
theorem VO{l:List aQ}{id:Int}:nC l id=none↔∀κ∈l,κ.id≠id:=by
 unfold nC;rw[List.findIdx?_eq_none_iff];simp
def yE(l:List aQ)(i:Nat):Nat:=i+1+((l.drop (i+1)).takeWhile fun κ=>decide (ET l i<κ.depth)).length
theorem agI{l:List aQ}{i:Nat}(hi:i<l.length):i+1≤yE l i∧yE l i≤l.length:=by
 unfold yE;have:=(List.takeWhile_sublist (l:=l.drop (i+1)) fun κ:aQ=>decide (ET l i<κ.depth)).length_le;rw[aBF]at this;omega
theorem Ru(l:List aQ)(d:Int):∀m k:Nat,m+k=l.length→wL (ET l) d m k=k+((l.drop k).takeWhile fun κ=>decide (d<κ.depth)).length
 | 0,k,h=>by rw[aA4 (by omega)]; rfl
 | m+1,k,h=>by
  have hk:k<l.length:=by omega
  unfold wL
  rw[Yt hk,←List.getElem_cons_drop hk,List.takeWhile_cons]
  split
  ·rename_i hd
   rw[Ru l d m (k+1) (by omega),azI (by simpa using hd),aAn]; omega
  ·rename_i hd
   rw[azG (by simpa using hd)]; rfl
theorem Rx{l:List aQ}{i:Nat}(hi:i<l.length):yE l i=J4 l.length (ET l) i:=by
 unfold yE J4;rw[Ru l _ _ _ (by omega)]
def bZ.named(e:bZ):Bool:=
 if e.kind=1 then e.id==0&&(e.depth==0&&e.color==bC.none)
 else if e.kind=2 then e.index==0&&(e.depth==0&&(e.node==aQ.zero&&e.color==bC.none))
 else if e.kind=3 then e.node==aQ.zero&&e.color==bC.none
 else if e.kind=4 then e.id==0&&(e.index==0&&(e.depth==0&&e.color==bC.none))
 else if e.kind=5 then e.id==0&&(e.index==0&&(e.depth==0&&e.node==aQ.zero))
 else false
def agJ(l:List aQ)(at':Nat)(more:List aQ):List aQ:=l.take at'++more++l.drop at'
def Ry(l:List aQ)(i j:Nat):List aQ:=l.take i++l.drop j
def amX(l:List aQ)(i j:Nat):List aQ:=(l.drop i).take (j-i)
def aQ.aqX(n:aQ)(root to:Int):aQ:={n with depth:=if to<0∨8<to then -1 else n.depth-root+to}
def mD(l:List aQ)(e:bZ):Except Int (List aQ):=
 if e.kind=1 then (if e.index<0∨(l.length:Int)<e.index then .error 6 else .ok (agJ l e.index.toNat [e.node]))
 else if e.kind=2 then (match nC l e.id with | none => .error 8 | some i => .ok (Ry l i (yE l i)))
 else if e.kind=3 then (match nC l e.id with
  | none => .error 8
  | some i=>if e.index<0∨((Ry l i (yE l i)).length:Int)<e.index then .error 6
   else .ok (agJ (Ry l i (yE l i)) e.index.toNat ((amX l i (yE l i)).map fun n=>n.aqX (ET l i) e.depth)))
 else if e.kind=4 then (match nC l e.node.id with
  | none => .error 8
  | some i=>if e.node.depth≠ET l i then .error 2 else .ok (l.set i e.node))
 else .ok l
def bD.with'(s:bD)(e:bZ)(l:List aQ):bD:=⟨s.w,s.h,if e.kind=5 then e.color else s.bg,l⟩
noncomputable def fB(s:bD)(e:bZ):bD×Int:=
 if s.valid=false then (.zero,18)else if e.named=false then (.zero,2)else
 match mD s.ns e with
 | .error n=>(.zero,n)
 | .ok l=>if (s.with' e l).chk.1=0 then (s.with' e l,0)else (.zero,(s.with' e l).chk.1)
theorem Ld{s t:bD}{e:bZ}(h:fB s e=(t,0)):s.valid=true∧e.named=true∧∃l,mD s.ns e = .ok l∧t=s.with' e l∧t.valid=true:=by
 unfold fB at h;split at h
 ·simp at h
 rename_i h1;split at h
 ·simp at h
 rename_i h2;refine⟨by simpa using h1,by simpa using h2,?_⟩;cases hn:mD s.ns e with
 | error n =>
  rw[hn]at h;simp only[azP]at h;exfalso;have h0:=h.2;subst h0;unfold mD at hn;repeat' split at hn
  all_goals first | (simp only[aBs]at hn; omega) | cases hn
 | ok l =>
  rw[hn]at h;simp only at h;split at h
  ·rename_i h3;simp only[azP,and_true]at h;exact⟨l,rfl,h.symm,by rw[←h]; unfold bD.valid; simpa using h3⟩
  rename_i h3;simp only[azP]at h;exact absurd h.2 h3
theorem aaC{s:bD}{e:bZ}{l:List aQ}(h1:s.valid=true)(h2:e.named=true)(h3:mD s.ns e = .ok l)(h4:(s.with' e l).valid=true):fB s e=(s.with' e l,0):=by
 unfold fB;rw[azG (by simp[h1]),azG (by simp[h2]),h3];simp only;rw[azI (by rw[bD.aaB h4])]
def bZ.remove(id:Int):bZ:=⟨2,id,0,0,.zero,.none⟩
theorem VP{pre:List aQ}{x:aQ}(h:x.chk≠0):jQ pre x=x.chk:=by unfold jQ; rw[azI h]
def aQ.moved(n:aQ)(root to:Int):aQ:={n with depth:=IntKind.i64.wrap (n.depth+IntKind.i64.wrap (to-root))}
def mF(l:List aQ)(e:bZ):Except Int (List aQ):=
 if e.kind=3 then (match nC l e.id with
  | none => .error 8
  | some i=>if e.index<0∨((Ry l i (yE l i)).length:Int)<e.index then .error 6
   else .ok (agJ (Ry l i (yE l i)) e.index.toNat ((amX l i (yE l i)).map fun n=>n.moved (ET l i) e.depth)))
 else mD l e
noncomputable def N9(s:bD)(e:bZ):bD×Int:=
 if s.valid=false then (.zero,18)else if e.named=false then (.zero,2)else
 match mF s.ns e with
 | .error n=>(.zero,n)
 | .ok l=>if (s.with' e l).chk.1=0 then (s.with' e l,0)else (.zero,(s.with' e l).chk.1)
end
section
open Go.RowKit
variable{α:Type}{K:Nat}
structure aJ where
 w:Int
 h:Int
 bg:bC
 nsa:Option Addr
 nsc:Nat
 ns:List aj
def aJ.s(s:aJ):Value := .slice s.nsa s.ns.length s.nsc
def aJ.cells(s:aJ):List Value:=[.i s.w,.i s.h]++s.bg.cells++[s.s]
def aJ.v(s:aJ):Value := .agg s.cells.toArray
def aJ.key(s:aJ):bD:=⟨s.w,s.h,s.bg,s.ns.map aj.key⟩
abbrev BK (K:Nat)(w:World)(v:Value)(l:List aj):Prop:=aI 47 aj.cells w v l∧∀n∈l,eu K w n
def dJ(K:Nat)(w:World)(s:aJ):Prop:=I64 s.w∧I64 s.h∧BK K w s.s s.ns
structure bn where
 kind:Int
 id:Int
 index:Int
 depth:Int
 node:aj
 color:bC
def bn.cells(e:bn):List Value:=[.i e.kind,.i e.id,.i e.index,.i e.depth]++e.node.cells++e.color.cells
def bn.v(e:bn):Value := .agg e.cells.toArray
def bn.key(e:bn):bZ:=⟨e.kind,e.id,e.index,e.depth,e.node.key,e.color⟩
def iF(K:Nat)(w:World)(e:bn):Prop:=I64 e.kind∧I64 e.id∧I64 e.index∧I64 e.depth∧eu K w e.node
theorem BK.below{w w':World}{v:Value}{l:List aj}(h:BK K w v l)(hb:Ext w w'):BK K w' v l:=⟨h.1.below hb,fun n hn=>(h.2 n hn).below hb⟩
theorem dJ.below{w w':World}{s:aJ}(h:dJ K w s)(hb:Ext w w'):dJ K w' s:=⟨h.1,h.2.1,h.2.2.below hb⟩
theorem iF.below{w w':World}{e:bn}(h:iF K w e)(hb:Ext w w'):iF K w' e:=⟨h.1,h.2.1,h.2.2.1,h.2.2.2.1,h.2.2.2.2.below hb⟩
def aJ.zero:aJ:=⟨0,0,.none,none,0,[]⟩
theorem Ie(w:World):dJ K w .zero:=⟨by decide,by decide,⟨dI _ _ _,fun n hn=>by cases hn⟩⟩
theorem VQ(pre:List aQ)(x:aQ):Ec (pre++[x])=if x.kind=1 then x.depth+1 else x.depth:=by
 unfold Ec;rw[List.getLast?_concat]
end
end Go.Proofs.YtodpgjjgaddkeaaGreatDoor
section
namespace Go.Proofs.YtodpgjjgaddkeaaGreatDoor
open Go.Maps
variable{P:Program}{k e t:TypeId}{b:Nat}{ids:List Int}{w w':World}
def lN(P:Program)(k e:TypeId)(w:World)(b:Nat)(ids:List Int):Prop:=
 ∃D:DataW Unit,w.ownsMap P k (plainElem P e) b ids.length D∧IsMap D∧∀x:Int,I64 x→D.atKey (.int .i64 x) (.lit (.bool false)) = .lit (.bool (ids.any (· == x)))
theorem VR(P:Program)(k e:TypeId)(w:World):lN P k e (w.alloc (.map #[] 0)) w.heap.size []:=
 ⟨.map [],World.ownsMap_made w P k _,isMap_empty,fun x _=>rfl⟩
theorem wf_i64{x:Int}(h:I64 x):(Lit.int .i64 x).wf=true:=by
 obtain⟨h1,h2⟩:=h;have e1:IntKind.i64.min = -9223372036854775808:=by decide
 have e2:IntKind.i64.max=9223372036854775807:=by decide
 simp[Lit.wf,e1,e2];omega
theorem zU{H:Type}(he:P.underlying e=some .bool){v:Value}{z:DataW H×List MemPlace}(h:plainElem P e v=some z):∃c,v = .bool c∧z=(.lit (.bool c),[]):=by
 unfold plainElem at h;rw[he]at h;cases v<;>simp at h;exact⟨_,rfl,h.symm⟩
theorem lN.lt(h:lN P k e w b ids):b<w.heap.size:=by obtain⟨D,h,_⟩:=h; exact h.lt
theorem lN.kept(h:lN P k e w b ids)(hb:∀i,i=b→w'.heap[i]?=w.heap[i]?):lN P k e w' b ids:=by
 obtain⟨D,⟨es,clock,hB,F,hs,hD⟩,h2,h3⟩:=h;exact⟨D,⟨es,clock,(hb b rfl).trans hB,F,hs,hD⟩,h2,h3⟩
theorem lN.lookup(h:lN P k e w b ids)(hk:P.underlying k=some (.int .i64))(he:P.underlying e=some .bool)(ht:P.underlying t=some (.map k e))(hz:(zeroValue e).run P w = .ok (.z) w){x:Int}(hx:I64 x) :
  (Instr.lookup t (.map (some b)) (.i x) false).run P w = .ok (.bool (ids.any (· == x))) w:=by
 obtain⟨D,h1,h2,h3⟩:=h;obtain⟨v,ps,hrun,hv⟩:=h1.lookup (int_keyed hk) ht hz (plainElem_bool he false) (keyOf_int_mk hk (wf_i64 hx));obtain⟨c,rfl,hc⟩:=zU he hv;simp only[azP]at hc;rw[h3 x hx]at hc;obtain⟨hc,-⟩:=hc;cases hc;exact hrun
theorem lN.update(h:lN P k e w b ids)(hk:P.underlying k=some (.int .i64))(he:P.underlying e=some .bool)(ht:P.underlying t=some (.map k e))(hn:ids.length<maxLen){x:Int}(hx:I64 x) :
  ∃w',(Instr.mapUpdate t (.map (some b)) (.i x) (.bool true)).run P w = .ok () w'∧lN P k e w' b (ids++[x])∧w.grownBy w' (some b):=by
 obtain⟨D,h1,h2,h3⟩:=h;obtain⟨w',hrun,ho,hg⟩:=h1.update (int_keyed hk) ht hn (keyOf_int_mk hk (wf_i64 hx)) (plainElem_bool he true);refine⟨w',hrun,⟨D.put (.int .i64 x) (.lit (.bool true)),?_,h2.put _ _,fun y hy=>?_⟩,hg⟩
 ·rw[azL,aCs]; exact ho
 rw[List.any_append,List.any_cons,List.any_nil,Bool.or_false];by_cases hxy:x=y
 ·subst hxy;rw[atKey_put_same h2 (k := .int .i64 x) (by first | trivial | simp[WideAt.IsKeyLit])];simp
 rw[atKey_put_other (by simpa using fun h=>hxy h.symm),h3 y hy];simp[hxy]
end Go.Proofs.YtodpgjjgaddkeaaGreatDoor
namespace Go.Sx
open Go.Proofs.YtodpgjjgaddkeaaGreatDoor Go.RowKit Go.Rel
variable{P:Program}{k e:TypeId}{b:Nat}{ids:List Int}{w w':World}
variable{ops:Array Oper}{Q:Exit→Act→World→Prop}{w0:World}{a:Act}{os:List Oper}{n:Nat}{l:List (Nat×Value)}{bl:List (Nat×List Value)}{vs:List eX}
def Rz(os:List Oper):Option Nat:=match os with
 | o::_=>(match o.guard,o.dst,o.op with
  | none,some d,.makeMap _ none=>some d
  | _,_,_=>none)
 | []=>none
def lookOf(os:List Oper)(l:List (Nat×Value)):Option (TypeId×Nat×Int×Nat):=match os with
 | o::_=>(match o.guard,o.dst,o.op with
  | none,some d,.lookup t x i false=>(match rd (lift l) [] x,rd (lift l) [] i with
   | some (.map (some b)),some (.i z)=>some (t,b,z,d)
   | _,_=>none)
  | _,_,_=>none)
 | []=>none
def aio(os:List Oper)(l:List (Nat×Value)):Option (TypeId×Nat×Int):=match os with
 | o::_=>(match o.guard,o.dst,o.op with
  | none,none,.mapUpdate t x i v=>(match rd (lift l) [] x,rd (lift l) [] i,rd (lift l) [] v with
   | some (.map (some b)),some (.i z),some (.bool true)=>some (t,b,z)
   | _,_,_=>none)
  | _,_,_=>none)
 | []=>none
theorem aqY(S:St w0 a w n l bl vs)(d:Nat)(next:∀a' w' b,Ext w w'→b=w.heap.size→(∀k e,lN P k e w' b [])→St w0 a' w' n ((d,.map (some b))::l) bl vs→wpList P ops Q (os.drop 1) a' w')
  (hx:Rz os=some d:=by kernel_rfl) (hd:vG n (some d)=true:=by rfl):wpList P ops Q os a w:=by
 unfold Rz at hx;split at hx
 ·rename_i o os';split at hx
  ·rename_i d' t hg hdst hop;cases hx;have hrun:(execOp a.eval o).run P w = .ok (.value (.map (some w.heap.size))) (w.alloc (.map #[] 0)):=by
    unfold execOp;simp only[hop];rfl
   unfold wpList;rw[azI (by simp[Region.wanted,hg])];left;unfold Oper.wp;rw[hrun];simp only[Oper.upon];have hE:Ext w (w.alloc (.map #[] 0)):=aF _ _;have S1:=S.grow hE;rw[hdst];exact next _ _ w.heap.size hE rfl (fun k e=>VR P k e w) ⟨uP S.s hd _,S1.E,S1.own,S1.apart,S1.mem⟩
  cases hx
 cases hx
theorem amY(S:St w0 a w n l bl vs)(d:Nat){t:TypeId}{z:Int}(h:lN P k e w b ids)(hk:P.underlying k=some (.int .i64))(he:P.underlying e=some .bool)(ht:P.underlying t=some (.map k e))(hz:(zeroValue e).run P w = .ok (.z) w)(hi:I64 z)
  (next:∀a',St w0 a' w n ((d,.bool (ids.any (· == z)))::l) bl vs→wpList P ops Q (os.drop 1) a' w)
  (hx:lookOf os l=some (t,b,z,d):=by kernel_rfl) (hd:vG n (some d)=true:=by rfl):wpList P ops Q os a w:=by
 unfold lookOf at hx;split at hx
 ·rename_i o os';split at hx
  ·rename_i d' t' x i hg hdst hop;split at hx
   ·rename_i b' z' hxx hii;cases hx;have hR:=ig (bY S.s) o;have hxv:=gV (Std.act a) (hR x (by rw[hop]; simp[Op.operands])) (p:=[]) rfl hxx;have hyv:=gV (Std.act a) (hR i (by rw[hop]; simp[Op.operands])) (p:=[]) rfl hii;have hrun:(execOp a.eval o).run P w = .ok (.value (.bool (ids.any (· == z)))) w:=by
     unfold execOp;simp only[hop,hxv,hyv,aAI,h.lookup hk he ht hz hi];rfl
    unfold wpList;rw[azI (by simp[Region.wanted,hg])];left;unfold Oper.wp;rw[hrun];simp only[Oper.upon];rw[hdst];exact next _ (S.act (uP S.s hd _))
   cases hx
  cases hx
 cases hx
theorem St.aqZ(S:St w0 a w n l bl vs)(h:lN P k e w b ids)(hb:w0.heap.size≤b)(hg:w.grownBy w' (some b))(h1:bl.all (fun p => !p.2.isEmpty)=true)(h2:vs.all (fun m => !m.2.2.isEmpty)=true):St w0 a w' n l bl vs:=by
 have hm:∀i,w.cell? ⟨b,i,none⟩=none:=by
  obtain⟨D,⟨es,clock,hB,_⟩,_⟩:=h;intro i;simp[World.cell?,hB]
 have hcell:∀c i,c<w.heap.size→c≠b→w'.cell? ⟨c,i,none⟩=w.cell? ⟨c,i,none⟩:=by
  intro c i hc hne;simp only[World.cell?];rw[hg.block c hc (fun e=>hne (azR e))]
 have amZ:∀c i,c<w.heap.size→c≠b→w'.frozen? ⟨c,i,none⟩=w.frozen? ⟨c,i,none⟩:=by
  intro c i hc hne;simp only[World.frozen?];rw[hg.block c hc (fun e=>hne (azR e))]
 have hE:Ext w0 w':=S.E.grown hg S.E.size (fun k e=>by cases e; exact hb);refine⟨S.s,hE,fun p hp=>?_,S.apart,fun m hmm=>?_⟩
 ·obtain⟨⟨q1,q2,q3⟩,q4⟩:=S.own p hp;have hne:p.1≠b:=by
   intro e;have h3:=aAh.1 h1 p hp;have h4:=q2 0;rw[e,hm 0]at h4;cases hA:p.2 with
   | nil=>rw[hA]at h3; cases h3
   | cons x A=>rw[hA]at h4; simp at h4
  exact⟨⟨aAa q1 hg.size,fun i=>by rw[hcell _ _ q1 hne]; exact q2 i,fun i=>by rw[amZ _ _ q1 hne]; exact q3 i⟩,q4⟩
 obtain⟨⟨q1,q2⟩,q3⟩:=S.mem m hmm;have hne:m.1≠b:=by
  intro e;have h3:=aAh.1 h2 m hmm;cases hA:m.2.2 with
  | nil=>rw[hA]at h3; cases h3
  | cons x A =>
   have h4:=q2 0 x (by rw[hA]; rfl);rw[e,hm]at h4;cases h4
 exact⟨⟨aAa q1 hg.size,fun i v hi=>by rw[hcell _ _ q1 hne]; exact q2 i v hi⟩,q3⟩
theorem aq0(S:St w0 a w n l bl vs){t:TypeId}{z:Int}(h:lN P k e w b ids)(hb:w0.heap.size≤b)(hk:P.underlying k=some (.int .i64))(he:P.underlying e=some .bool)(ht:P.underlying t=some (.map k e))(hn:ids.length<maxLen)(hi:I64 z)
  (next:∀w',lN P k e w' b (ids++[z])→w.grownBy w' (some b)→St w0 a w' n l bl vs→wpList P ops Q (os.drop 1) a w')
  (hx:aio os l=some (t,b,z):=by kernel_rfl) (h1:bl.all (fun p => !p.2.isEmpty)=true:=by kernel_rfl) (h2:vs.all (fun m => !m.2.2.isEmpty)=true:=by kernel_rfl):wpList P ops Q os a w:=by
 unfold aio at hx;split at hx
 ·rename_i o os';split at hx
  ·rename_i t' x i v hg hdst hop;split at hx
   ·rename_i b' z' hxx hii hvv;cases hx;have hR:=ig (bY S.s) o;have hxv:=gV (Std.act a) (hR x (by rw[hop]; simp[Op.operands])) (p:=[]) rfl hxx;have hyv:=gV (Std.act a) (hR i (by rw[hop]; simp[Op.operands])) (p:=[]) rfl hii;have hzv:=gV (Std.act a) (hR v (by rw[hop]; simp[Op.operands])) (p:=[]) rfl hvv;obtain⟨w',hrun,h',hg'⟩:=h.update hk he ht hn hi;have hrun:(execOp a.eval o).run P w = .ok .skip w':=by
     unfold execOp;simp only[hop,hxv,hyv,hzv,aAI,hrun];rfl
    unfold wpList;rw[azI (by simp[Region.wanted,hg])];left;unfold Oper.wp;rw[hrun];simp only[Oper.upon];rw[hdst];exact next _ h' hg' (S.aqZ h hb hg' h1 h2)
   cases hx
  cases hx
 cases hx
theorem RD(h:lN P k e w b ids):On (fun i=>i=b) (fun w=>lN P k e w b ids) w:=fun w' hs hb=>h.kept fun i hi=>hb i (by rw[hi]; exact h.lt) hi
end Go.Sx
end
