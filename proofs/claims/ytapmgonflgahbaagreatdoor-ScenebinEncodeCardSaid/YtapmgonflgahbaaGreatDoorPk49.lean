/- Reference 46: scenes and edits encoded. The law of chapter 46 on encoding. -/
import Derived.Test.YtapmgonflgahbaaGreatDoorRenC
import Derived.Test.YtapmgonflgahbaaGreatDoorPk47
import Derived.Test.YtapmgonflgahbaaGreatDoorMk
set_option linter.unusedVariables false
namespace Go.Proofs.YtapmgonflgahbaaGreatDoor
open _root_.Go.Proofs.Tryz
section
set_option maxHeartbeats 3200000
set_option maxRecDepth 100000
open Go.RowKit En
variable{α:Type}{K:Nat}
theorem BL{base:Nat}{w:World}{v:Value}{L:List UInt8}(h:Sx.Pf base dY L v w):∃p:dA,v=p.v∧p.l=L∧Sx.oD base (fun W=>mF W p.v p.l) w:=by
 obtain⟨b,cap,e,-⟩:=id h;subst e;exact⟨⟨some ⟨b,0,none⟩,cap,L⟩,rfl,rfl,h.dep⟩
theorem afB{base b:Nat}{w:World}{L:List UInt8}(h:fK w 1 (.slice (some ⟨b,0,none⟩) L.length L.length) L.length (L.map dY))(h1:base≤b)(h2:b<w.heap.size)(hm:L.length≤maxLen):Sx.Pf base dY L (.slice (some ⟨b,0,none⟩) L.length L.length) w:=by
 refine⟨b,L.length,rfl,h1,h2,an7 _,hm,fun i hi=>?_⟩;obtain⟨-,-,⟨h0,-⟩ | ⟨b',o,cap,e,-,-,-,hc⟩⟩:=h
 ·omega
 simp only[aoB,an8,Addr.mk.injEq]at e;obtain⟨⟨rfl,rfl,-⟩,-,-⟩:=e;have:=hc i (dY L[i]) (by simp[hi]);rwa [aoY]at this
theorem Dn{w:World}{s:dF}(h:kW K w s) :
  Calls prog 13 #[s.v] w fun e w'=>∃v er,e = .returned (.tuple #[v,.i er])∧xM w.heap.size w' s.key v er∧Ext w w':=by
 skip;refine anA func13 ntmps13 fun ac S=>anv fun _ aS=>anw S 1 s.cells fun ac u b2 E3 hb4 S=>adr S 2 [] [(2,.sn),(3,.i 0)] fun S=>anu<|aS _ _<|anV fun _ bM=>anv fun _ iL=>adr S 1 [.mem 0 0] [(6,s.v)] fun S=>anE S 7 (PW (h.below S.E)) fun ac u E7 S=>adr S 1 [] [(8,.bool (!s.key.valid))] fun S=>anu (iL _ _ ?_);refine anx S (fun hc8=>?_) (fun hc8=>?_)
 ·refine anv fun _ ig=>adr S 2 [] [(2,.sn),(3,.i 18)] fun S=>anu<|ig _ _<|Sx.Pq S results13 ?_;exact⟨_,_,rfl,.inr ⟨by have:=hc8; simpa using this,rfl,rfl⟩,S.E⟩
 have vs:s.key.valid=true:=by have:=hc8; simpa using this
 have hsl:=Dj vs;have hlim:=Af vs;obtain⟨a,cap,es⟩:∃a c,s.s = .slice a s.ns.length c:=⟨_,_,rfl⟩;have hr:=h.2.2.1;rw[es]at hr;refine anZ<|bM _ _<|anV (fun _ eX=>?_);have R:=aoz S;have q11:=S.E.size;have q12:=R.lt;refine Sx.aea S 15 [(Sx.Pm u.heap.size dY [71,83,49]),(Sx.Pf u.heap.size dY ([71,83,49])),Rel.is (.q b2 0),Rel.is (.i s.w),Rel.is (.q b2 1),Rel.is (.i s.h),(Sx.Pf u.heap.size (fun x:Int=>(.i x:Value)) [s.w,s.h]),(Sx.Pf u.heap.size dY (bH [s.w,s.h])),Rel.is (.q b2 2),Rel.is (.agg s.bg.cells.toArray),(Sx.Pf u.heap.size dY (Px.pb s.bg)),Rel.is (.q b2 6),Rel.is (.slice a s.ns.length cap),Rel.is (.i s.ns.length),(Sx.Pf u.heap.size dY (dP 10 s.ns.length))] ⟨Sx.Pm.mono,Sx.Pf.mono,Rel.aI _,Rel.aI _,Rel.aI _,Rel.aI _,Sx.Pf.mono,Sx.Pf.mono,Rel.aI _,Rel.aI _,Sx.Pf.mono,Rel.aI _,Rel.aI _,Rel.aI _,Sx.Pf.mono,trivial⟩ ⟨fun ρ u1 hs ho hC hD=>Sx.ml hC.size (Sx.agq (T:=Sx.Pm u.heap.size dY [71,83,49]) hs [] trivial [.u 71,.u 83,.u 49] (some 3) (fun v w2 h hE=>Sx.Pm.new (l:=[71,83,49]) h hC.size (by simp[maxLen]) (by decide))),
  fun ρ u1 hs ho hC hD=>Sx.Pm.mark ((hD.1 rfl)),
  fun ρ u1 hs ho hC hD=>Sx.ml hC.size (anG hs [(1,.q b2 0)] ⟨(ho 1 rfl).trans (S.s.ev rfl),trivial⟩),
  fun ρ u1 hs ho hC hD=>Sx.ml hC.size (Sx.dld (hD.1 rfl) (((S.bx 0).ext hC).range 0 1 rfl)),
  fun ρ u1 hs ho hC hD=>Sx.ml hC.size (anG hs [(1,.q b2 0)] ⟨(ho 1 rfl).trans (S.s.ev rfl),trivial⟩),
  fun ρ u1 hs ho hC hD=>Sx.ml hC.size (Sx.dld (hD.1 rfl) (((S.bx 0).ext hC).range 1 1 rfl)),
  fun ρ u1 hs ho hC hD=>Sx.ml hC.size (Sx.agq (T:=Sx.Pf u.heap.size (fun x:Int=>(.i x:Value)) [s.w,s.h]) hs [(12,.i s.w),(14,.i s.h)] ⟨hD.1 rfl,hD.2.1 rfl,trivial⟩ [.i s.w,.i s.h] (some 2) (fun v w2 h hE=>Sx.Pf.new (l:=[s.w,s.h]) h hC.size (by simp[maxLen]))),
  fun ρ u1 hs ho hC hD=>Sx.ml hC.size (Sx.dc (T:=Sx.Pf u.heap.size dY (bH [s.w,s.h])) hs [(15,ρ (.tmp 15))] ⟨rfl,trivial⟩ ((gZ (L:=[s.w,s.h]) (Sx.Pf.row (hD.1 rfl)) (kY.all (L:=[s.w,s.h]) ⟨h.1,h.2.1,trivial⟩) (by simp)).mono fun e w2 ⟨v,h1,h2,h3⟩=>⟨v,h1,h3,Sx.Pf.of (l:=bH [s.w,s.h]) h2 hC.size (by have:=S9 s.w; rw[Dk,an5]; omega)⟩)),
  fun ρ u1 hs ho hC hD=>Sx.ml hC.size (anG hs [(1,.q b2 0)] ⟨(ho 1 rfl).trans (S.s.ev rfl),trivial⟩),
  fun ρ u1 hs ho hC hD=>Sx.ml hC.size (Sx.dld (hD.1 rfl) (((S.bx 0).ext hC).range 2 4 rfl)),
  fun ρ u1 hs ho hC hD=>Sx.ml hC.size (Sx.dc (T:=Sx.Pf u.heap.size dY (Px.pb s.bg)) hs [(18,.agg s.bg.cells.toArray)] ⟨hD.1 rfl,trivial⟩ ((qC (c:=s.bg)).mono fun e w2 ⟨v,h1,h2,h3⟩=>⟨v,h1,h3,Sx.Pf.of (l:=Px.pb s.bg) h2 hC.size (by simp[Px.pb])⟩)),
  fun ρ u1 hs ho hC hD=>Sx.ml hC.size (anG hs [(1,.q b2 0)] ⟨(ho 1 rfl).trans (S.s.ev rfl),trivial⟩),
  fun ρ u1 hs ho hC hD=>Sx.ml hC.size ((by rw[←es]; exact Sx.dld (V:=s.s) (hD.1 rfl) (((S.bx 0).ext hC).range 6 1 rfl))),
  fun ρ u1 hs ho hC hD=>Sx.ml hC.size (anG hs [(21,.slice a s.ns.length cap)] ⟨hD.1 rfl,trivial⟩),
  fun ρ u1 hs ho hC hD=>Sx.ml hC.size (Sx.dc (T:=Sx.Pf u.heap.size dY (dP 10 s.ns.length)) hs [(22,.i s.ns.length)] ⟨hD.1 rfl,trivial⟩ ((uS (n:=s.ns.length) (by omega)).mono fun e w2 ⟨v,h1,h2,h3⟩=>⟨v,h1,h3,Sx.Pf.of (l:=dP 10 s.ns.length) h2 hC.size (xu 9 _)⟩)),trivial⟩ (fun ac u Dv hf S=>?_)
 obtain⟨vX,LY,Tj,Tm⟩:=BL (hf 1 _ rfl);have S:=S.know (d:=10) LY;obtain⟨R,Y15⟩:=R.aT S (aoc Dv);have G16:Sx.Ow _ _ _ _:=Sx.oD.ow Tm q11 q12;obtain⟨yD,afC,afD,afE⟩:=BL (hf 7 _ rfl);have S:=S.know (d:=16) afC;have G18:Sx.Ow _ _ _ _:=Sx.oD.ow afE q11 q12;obtain⟨p19,akd,ake,akf⟩:=BL (hf 10 _ rfl);have S:=S.know (d:=19) akd;have G20:Sx.Ow _ _ _ _:=Sx.oD.ow akf q11 q12;obtain⟨p21,akg,akh,aki⟩:=BL (hf 14 _ rfl);have S:=S.know (d:=23) akg;have G22:Sx.Ow _ _ _ _:=Sx.oD.ow aki q11 q12;refine anY S R 24 4 49 1 [vX.v,yD.v,p19.v,p21.v] (fun ac u v23 MQ X25 R S=>?_);have R:=R.as (show [(⟨49,1,v23,4,[vX.v,yD.v,p19.v,p21.v]⟩:Sx.Row)]=[pR v23 [vX,yD,p19,p21]]from rfl);have G26:Sx.Ow _ _ (bG ([vX,yD,p19,p21])) _:=(aok (aol (aoh G16 X25) (aok (aol (aoh G18 X25) (aok (aol (aoh G20 X25) (aok (aol (aoh G22 X25) (fun _ _ _=>bG.nil _)) fun _ h=>bG.cons h.1 h.2)) fun _ h=>bG.cons h.1 h.2)) fun _ h=>bG.cons h.1 h.2)) fun _ h=>bG.cons h.1 h.2);have akj:=(bV Tj (bV afD (bV ake (eH akh))));refine adr S 1 [] [(4,v23)] fun S=>anu<|eX _ _<|anV fun _ ni=>anv fun _ oP=>adr S 1 [] [(5,.i 0)] fun S=>anu<|oP _ _<|an1 ?_;refine aow (ι:=Nat×Value×List dA) (fun p a' w'=>p.1≤s.ns.length∧(qE p.2.2=(([71,83,49]++(bH [s.w,s.h]++(Px.pb s.bg++dP 10 s.ns.length)))++(s.ns.take p.1).flatMap (fun n:aA=>fF false n.key))∧p.2.2.length=p.1+4)∧Sx.Rw w w' [(b2,s.cells)] [⟨49,1,p.2.1,p.2.2.length,p.2.2.map dA.v⟩]∧Sx.Ow w.heap.size (Sx.Ob [(b2,s.cells)] [⟨49,1,p.2.1,p.2.2.length,p.2.2.map dA.v⟩]) (fun W=>bG p.2.2 W) w'∧Sx.St w a' w' 44 [(0,s.v),(1,.q b2 0),(2,.sn),(3,.i 0),(4,p.2.1),(5,.i p.1)] [(b2,s.cells)] []) (fun p=>s.ns.length-p.1) (0,v23,[vX,yD,p19,p21]) ⟨aoa _,⟨akj.trans (by simp),rfl⟩,R,G26,S.sn⟩ ?_;rintro⟨k,v,ps⟩ ac u hI;try dsimp only at hI
 obtain⟨hk,hR,R,qF,S⟩:=hI;have hfk:=hR.1;have hpl:=hR.2;refine anV fun _ mM=>anv fun _ qg=>adr S 5 [.mem 0 6,.re 27 s.s (.slice a s.ns.length cap)] [(29,.bool ((k:Int)<(s.ns.length:Int)))] (hk:=⟨es,trivial⟩) fun S=>anu (qg _ _ ?_);refine anx S (fun hc32=>?_) (fun hc32=>?_)
 ·refine anZ<|mM _ _<|anV fun _ jO=>an1<|an3 ?_;have aaW:k<s.ns.length:=by have:=aoe hc32; omega
  obtain⟨X4,o35,rfl,x40,hx38,akk,akl⟩:=aom hr (fun _=>rfl) (k) aaW;have S:=S.view0 akk akl;refine adr S 6 [.mem 0 6,.re 34 s.s (.slice (some ⟨X4,o35,none⟩) s.ns.length cap),.idx k s.ns.length,.mem 1 0] [(32,v),(37,x40.v)] (fun S=>?_) (hk:=⟨es,aaW,trivial⟩);have q42:=S.E.size;have q43:=R.lt;refine anB S (some 38) ((by have hc:=vY ((h.2.2.2 _ (hx38▸aot aaW)).below S.E); rw[an6 (LU vs _ (hx38▸aot aaW))]at hc; exact hc)) ?_;rintro e u ⟨v44,rfl,akm,E46⟩;refine⟨_,rfl,E46,fun ac S=>?_⟩;obtain⟨p47,rfl,akn,ako⟩:=bF akm;obtain⟨R,Y48⟩:=R.aT S (aoc E46);have G49:Sx.Ow _ _ _ _:=Sx.oD.ow ako q42 q43;refine anP S 39 1 [p47.v] (fun ac u b50 E51 ae5 S=>?_);obtain⟨R,Y53⟩:=R.aT S (aoG E51 ae5);refine anW S R 0 40 rfl jF (Sx.lC (m:=1) (k:=1) (A:=[p47.v]) (S.bx 0)) (by show(ps).length+1≤9223372036854775807; first | omega | (simp only[an5,aop,aoy]; omega)) (by show((ps).length+1)*24≤140737488355328; first | omega | (simp only[an5,aop,aoy]; omega)) (fun ac u v54 X55 R S=>?_);have R:=R.as (show [(⟨49,1,v54,(ps).length+1,(ps).map dA.v++[p47.v]⟩:Sx.Row)]=[pR v54 (ps++[p47])] by simp[pR]);have S:=S.gq 1;obtain⟨R,Y56⟩:=R.aT S (aoD 1);have G57:Sx.Ow _ _ (bG (ps++[p47])) _:=(aok (aol (aoh qF (an4 Y48 (an4 Y53 (an4 X55 Y56)))) (aok (aol (aoh G49 (an4 Y53 (an4 X55 Y56))) (fun _ _ _=>bG.nil _)) fun _ h=>bG.cons h.1 h.2)) fun _ h=>bG.app h.1 h.2);have akp:=iW hfk (eH akn);refine adr S 1 [] [(4,v54)] fun S=>anu<|jO _ _<|an3<|adr S 3 [.re 31 (.i (IntKind.i64.wrap ((k:Int)+1))) (.i (k+1:Nat))] [(5,.i (k+1:Nat))] (hk:=⟨anJ (by omega),trivial⟩) fun S=>anu ?_;show ∃i',_∧_;exact⟨((k+1),v54,ps++[p47]),⟨by omega,(⟨by rw[akp,yE aaW hx38]; exact aoU _ _ _,by rw[an5,hR.2]; simp<;>omega⟩),R,G57,S.sn⟩,by show _-_<_-_; omega⟩
 refine aod<|ni _ _<|anv (fun _ Ru=>?_);have hBn:(([71,83,49]++(bH [s.w,s.h]++(Px.pb s.bg++dP 10 s.ns.length)))++(s.ns.take k).flatMap (fun n:aA=>fF false n.key))=xJ s.key:=by rw[aou (by have:=aoi hc32; omega)]; unfold xJ gu; simp only[dF.key,apD,List.flatMap_map,aoU]
 have hfz:=hfk.trans hBn;refine adr S 1 [] [(41,v)] (fun S=>?_);have hall:=qG (lI R (qF).self) hfz (by omega);have S0:=S.E.size;refine anB S (some 42) (hall) ?_;rintro e u ⟨v60,rfl,akq,E62⟩;refine⟨_,rfl,E62,fun ac S=>?_⟩;have S1:=S.E.size;refine anB S (some 43) (uT _ (xJ s.key) _ (kQ ((au akq S0))) (by omega)) ?_;rintro e u ⟨v42,rfl,Tn,E63⟩;refine⟨_,rfl,E63,fun ac S=>?_⟩;refine adr S 2 [] [(2,v42),(3,.i 0)] fun S=>anu<|Ru _ _<|Sx.Pq S results13 ?_;exact⟨_,_,rfl,.inl ⟨vs,(au Tn S1),rfl⟩,S.E⟩
theorem Tq{w:World}{e:jE}(h:sO K w e):e.key.named = !jq e.key:=by
 unfold qw.named jq;generalize e.key=x;have hz:bZ.key=dR.zero:=rfl;have hc:(⟨0,0,0,0⟩:bT)=bT.none:=rfl;rw[hz,hc];by_cases h1:x.kind=1
 ·rw[an6 h1,an6 h1]; rw[aoR]; simp[and_assoc]
 by_cases h2:x.kind=2
 ·rw[an0 h1,an6 h2,an0 h1,an0 (by omega),an0 (by omega),an6 h2]; rw[aoR]; simp; exact⟨fun⟨a,b,c,d⟩=>⟨⟨⟨a,b⟩,d⟩,c⟩,fun⟨⟨⟨a,b⟩,d⟩,c⟩=>⟨a,b,c,d⟩⟩
 by_cases h3:x.kind=3
 ·rw[an0 h1,an0 h2,an6 h3,an0 h1,an0 (by omega),an6 h3]; rw[aoR]; simp[and_comm]
 by_cases h4:x.kind=4
 ·rw[an0 h1,an0 h2,an0 h3,an6 h4,an0 h1,an6 h4]; rw[aoR]; simp[and_assoc]
 by_cases h5:x.kind=5
 ·rw[an0 h1,an0 h2,an0 h3,an0 h4,an6 h5,an0 h1,an0 h4,an0 h3,an0 h2,an6 h5]; rw[aoR]; simp[and_assoc]
 rw[an0 h1,an0 h2,an0 h3,an0 h4,an0 h5,an0 h1,an0 h4,an0 h3,an0 h2,an0 h5]; rfl
theorem xO{e:jE}(hv:mV e.key=true→e.key.node.chk=0):(qA e.key).length≤60000000:=by
 have:=Ve (e:=e) fun hk=>by
  have:=hv (by unfold mV; show((e.kind==1)||(e.kind==4))=true; simpa using hk);rwa [show e.key.node=e.node.key from rfl,kV]at this
 unfold qA;simp only[an5,aop,aoy];omega
theorem Tt{w:World}{e:jE}(h:sO K w e) :
  Calls prog 45 #[e.v] w fun r w'=>r = .returned (.bool e.key.named)∧Ext w w':=by
 skip;refine anA func45 ntmps45 fun ac S=>anv fun _ aS=>anw S 1 e.cells fun ac u b2 E3 hb4 S=>adr S 1 [] [(2,.z)] fun S=>anu<|aS _ _<|anv fun _ bM=>adr S 1 [.mem 0 0] [(3,e.v)] fun S=>anE S 4 (P7 (h.below S.E)) fun ac u E6 S=>adr S 1 [] [(2,.bool e.key.named)] fun S=>anu<|bM _ _<|anz S results45 ?_;exact⟨rfl,S.E⟩
theorem aaX{w:World}{e:jE} :
  Calls prog 46 #[e.v] w fun r w'=>r = .returned (.bool (mV e.key))∧Ext w w':=by
 skip;refine anA func46 ntmps46 fun ac S=>anv fun _ aS=>anw S 1 e.cells fun ac u b2 E3 hb4 S=>adr S 1 [] [(2,.z)] fun S=>anu<|aS _ _<|anv fun _ bM=>adr S 9 [.mem 0 0,.mem 0 0] [(2,.bool (((e.kind)==1)||((e.kind)==4)))] fun S=>anu<|bM _ _<|anz S results46 ?_;exact⟨rfl,S.E⟩
theorem Es{w:World}{e:jE}(h:sO K w e) :
  Calls prog 15 #[e.v] w fun r w'=>∃v er,r = .returned (.tuple #[v,.i er])∧zu w.heap.size w' e.key v er∧Ext w w':=by
 skip;refine anA func15 ntmps15 fun ac S=>anv fun _ aS=>anw S 1 e.cells fun ac u b2 E3 hb4 S=>adr S 2 [] [(2,.sn),(3,.i 0)] fun S=>anu<|aS _ _<|anV fun _ bM=>anv fun _ iL=>adr S 1 [.mem 0 0] [(5,e.v)] fun S=>anE S 6 (BD (Tt (h.below S.E)) (an9 Value.bool (Tq h))) fun ac u E7 S=>adr S 1 [] [(7,.bool (!(!jq e.key)))] fun S=>anu (iL _ _ ?_);refine anx S (fun hc8=>?_) (fun hc8=>?_)
 ·refine anv fun _ ig=>adr S 2 [] [(2,.sn),(3,.i 2)] fun S=>anu<|ig _ _<|Sx.Pq S results15 ?_;exact⟨_,_,rfl,.inl ⟨by have:=hc8; simpa using this,rfl,rfl⟩,S.E⟩
 have m1:jq e.key=false:=by have:=hc8; simpa using this
 refine anZ<|bM _ _<|anv (fun _ eX=>?_);have R:=aoz S;have q11:=S.E.size;have q12:=R.lt;refine Sx.ais S 8 9 3 [.u 71,.u 69,.u 49] 49 5 underlying49 underlying5 (fun{ac u b} hb1 hb2 Dv raw S=>?_);obtain⟨vX,LY,Tj,Tm⟩:=BL (afB (L:=[71,69,49]) raw hb1 hb2 (by simp[maxLen]));have LY:(.slice (some ⟨b,0,none⟩) 3 3:Value)=vX.v:=LY;rw[LY]at S;obtain⟨R,Y15⟩:=R.aT S (aoc Dv);have G16:Sx.Ow _ _ _ _:=Sx.oD.ow Tm q11 q12;refine adr S 8 [.mem 0 0,.mem 0 1,.mem 0 2,.mem 0 3] [(11,.i e.kind),(13,.i e.id),(15,.i e.index),(17,.i e.depth)] fun S=>anP S 18 4 [.i e.kind,.i e.id,.i e.index,.i e.depth] (fun ac u b17 uY CG S=>?_);obtain⟨R,Y20⟩:=R.aT S (aoG uY CG);have q21:=S.E.size;have q22:=R.lt;refine anB S (some 19) (gZ (L:=[e.kind,e.id,e.index,e.depth]) (Sx.iO (f:=fun x:Int => .i x) [e.kind,e.id,e.index,e.depth] (S.bx 0) (by simp[maxLen])) (kY.all (L:=[e.kind,e.id,e.index,e.depth]) ⟨h.1,h.2.1,h.2.2.1,h.2.2.2.1,trivial⟩) (by simp)) ?_;rintro e u ⟨v23,rfl,akr,Ap⟩;refine⟨_,rfl,Ap,fun ac S=>?_⟩;obtain⟨p26,rfl,aks,akt⟩:=bF akr;obtain⟨R,Y27⟩:=R.aT S (aoc Ap);have G28:Sx.Ow _ _ _ _:=Sx.oD.ow akt q21 q22;have S:=S.gq 1;obtain⟨R,Y29⟩:=R.aT S (aoD 1);refine anY S R 20 2 49 1 [vX.v,p26.v] (fun ac u v30 DF X32 R S=>?_);have R:=R.as (show [(⟨49,1,v30,2,[vX.v,p26.v]⟩:Sx.Row)]=[pR v30 [vX,p26]]from rfl);have G33:Sx.Ow _ _ (bG ([vX,p26])) _:=(aok (aol (aoh G16 (an4 Y20 (an4 Y27 (an4 Y29 X32)))) (aok (aol (aoh G28 (an4 Y29 X32)) (fun _ _ _=>bG.nil _)) fun _ h=>bG.cons h.1 h.2)) fun _ h=>bG.cons h.1 h.2);have afF:=(bV Tj (eH aks));refine adr S 1 [] [(4,v30)] fun S=>anu<|eX _ _<|anV fun _ nZ=>anv fun _ nD=>adr S 1 [.mem 0 0] [(21,e.v)] fun S=>anE S 22 (aaX (e:=e)) fun ac u FW S=>anu (nD _ _ ?_);refine anx S (fun hc38=>?_) (fun hc38=>?_)
 ·have hh:mV e.key=true:=hc38;have hk:(e.key.kind=1∨e.key.kind=4):=by unfold mV at hh; simpa using hh
  refine anV fun _ qm=>anv fun _ wY=>adr S 2 [.mem 0 4] [(24,e.node.v)] fun S=>anE S 25 (BM (h.2.2.2.2.below S.E)) fun ac u E41 S=>adr S 1 [] [(26,.bool (!(e.node.checkN==0)))] fun S=>anu (wY _ _ ?_);refine anx S (fun afG=>?_) (fun afG=>?_)
  ·refine anv fun _ rX=>adr S 2 [] [(2,.sn),(3,.i 17)] fun S=>anu<|rX _ _<|Sx.Pq S results15 ?_;exact⟨_,_,rfl,.inr (.inl ⟨m1,hh,by have:=afG; rw[show e.key.node=e.node.key from rfl,kV]; simpa using this,rfl,rfl⟩),S.E⟩
  have hv:e.node.checkN=0:=by have:=afG; simpa using this
  refine anZ<|qm _ _<|an3<|adr S 3 [.mem 0 4] [(27,v30),(29,e.node.v)] (fun S=>?_);obtain⟨R,Y44⟩:=R.aT S (an4 (aoc FW) (aoc E41));have q45:=S.E.size;have q46:=R.lt;refine anB S (some 30) ((by have hc:=vY (h.2.2.2.2.below S.E); rw[an6 hv]at hc; exact hc)) ?_;rintro e u ⟨v47,rfl,aku,E49⟩;refine⟨_,rfl,E49,fun ac S=>?_⟩;obtain⟨p50,rfl,afH,afI⟩:=bF aku;obtain⟨R,Y51⟩:=R.aT S (aoc E49);have G52:Sx.Ow _ _ _ _:=Sx.oD.ow afI q45 q46;refine anP S 31 1 [p50.v] (fun ac u b53 E54 agX S=>?_);obtain⟨R,Y56⟩:=R.aT S (aoG E54 agX);refine anW S R 0 32 rfl jF (Sx.lC (m:=1) (k:=1) (A:=[p50.v]) (S.bx 0)) (by show([vX,p26]).length+1≤9223372036854775807; simp only[an5,aop,aoy]; omega) (by show(([vX,p26]).length+1)*24≤140737488355328; simp only[an5,aop,aoy]; omega) (fun ac u v57 X58 R S=>?_);have R:=R.as (show [(⟨49,1,v57,([vX,p26]).length+1,([vX,p26]).map dA.v++[p50.v]⟩:Sx.Row)]=[pR v57 ([vX,p26]++[p50])] by simp[pR]);have S:=S.gq 1;obtain⟨R,Yf⟩:=R.aT S (aoD 1);have G60:Sx.Ow _ _ (bG ([vX,p26]++[p50])) _:=(aok (aol (aoh G33 (an4 Y44 (an4 Y51 (an4 Y56 (an4 X58 Yf))))) (aok (aol (aoh G52 (an4 Y56 (an4 X58 Yf))) (fun _ _ _=>bG.nil _)) fun _ h=>bG.cons h.1 h.2)) fun _ h=>bG.app h.1 h.2);have ahq:=iW afF (eH afH);refine adr S 1 [] [(4,v57)] fun S=>anu<|nZ _ _<|anV fun _ Oq=>anv fun _ aeC=>adr S 3 [.mem 0 0] [(35,.bool ((e.kind)==5))] fun S=>anu (aeC _ _ ?_);refine anx S (fun afJ=>?_) (fun afJ=>?_)
  ·have h5:e.key.kind=5:=by have:=afJ; simpa[jE.key]using this
   refine an3<|adr S 3 [.mem 0 51] [(36,v57),(38,.agg e.color.cells.toArray)] (fun S=>?_);have q65:=S.E.size;have q66:=R.lt;refine anB S (some 39) (qC (c:=e.color)) ?_;rintro e u ⟨v67,rfl,afK,E69⟩;refine⟨_,rfl,E69,fun ac S=>?_⟩;obtain⟨p70,rfl,akv,akw⟩:=bF afK;obtain⟨R,Y71⟩:=R.aT S (aoc E69);have G72:Sx.Ow _ _ _ _:=Sx.oD.ow akw q65 q66;refine anP S 40 1 [p70.v] (fun ac u b73 E74 akx S=>?_);obtain⟨R,Y76⟩:=R.aT S (aoG E74 akx);refine anW S R 0 41 rfl jF (Sx.lC (m:=1) (k:=1) (A:=[p70.v]) (S.bx 0)) (by show([vX,p26]++[p50]).length+1≤9223372036854775807; simp only[an5,aop,aoy]; omega) (by show(([vX,p26]++[p50]).length+1)*24≤140737488355328; simp only[an5,aop,aoy]; omega) (fun ac u v77 X78 R S=>?_);have R:=R.as (show [(⟨49,1,v77,([vX,p26]++[p50]).length+1,([vX,p26]++[p50]).map dA.v++[p70.v]⟩:Sx.Row)]=[pR v77 ([vX,p26]++[p50]++[p70])] by simp[pR]);have S:=S.gq 1;obtain⟨R,Y79⟩:=R.aT S (aoD 1);have G80:Sx.Ow _ _ (bG ([vX,p26]++[p50]++[p70])) _:=(aok (aol (aoh G60 (an4 Y71 (an4 Y76 (an4 X78 Y79)))) (aok (aol (aoh G72 (an4 Y76 (an4 X78 Y79))) (fun _ _ _=>bG.nil _)) fun _ h=>bG.cons h.1 h.2)) fun _ h=>bG.app h.1 h.2);have ani:=iW ahq (eH akv);refine adr S 1 [] [(4,v77)] fun S=>anu<|Oq _ _<|anv (fun _ acd=>?_);exact absurd hk (by omega)
  have h5:¬e.key.kind=5:=by have:=afJ; simpa[jE.key]using this
  refine anZ<|Oq _ _<|anv (fun _ aeG=>?_);have hBn:([71,69,49])++((bH [e.kind,e.id,e.index,e.depth]))++((fF false e.node.key))=qA e.key:=by unfold qA IX; rw[an6 hk]; simp only[aoU,ao6]; rfl
  have hfz:=ahq.trans hBn;have hm2:mV e.key=true→e.key.node.chk=0:=fun _=>(kV e.node).trans hv;have hbm:=xO hm2;refine adr S 1 [] [(42,v57)] (fun S=>?_);have hall:=qG (lI R (G60).self) hfz (by omega);have S0:=S.E.size;refine anB S (some 43) (hall) ?_;rintro e u ⟨v84,rfl,aky,E86⟩;refine⟨_,rfl,E86,fun ac S=>?_⟩;have S1:=S.E.size;refine anB S (some 44) (uT _ (qA e.key) _ (kQ ((au aky S0))) (by omega)) ?_;rintro e u ⟨v42,rfl,Tn,E87⟩;refine⟨_,rfl,E87,fun ac S=>?_⟩;refine adr S 2 [] [(2,v42),(3,.i 0)] fun S=>anu<|aeG _ _<|Sx.Pq S results15 ?_;exact⟨_,_,rfl,.inr (.inr ⟨m1,hm2,(au Tn S1),rfl⟩),S.E⟩
 have hh:mV e.key=false:=hc38;have hk:¬(e.key.kind=1∨e.key.kind=4):=by unfold mV at hh; simpa using hh
 refine anZ<|nZ _ _<|anV fun _ acf=>anv fun _ afv=>adr S 3 [.mem 0 0] [(35,.bool ((e.kind)==5))] fun S=>anu (afv _ _ ?_);refine anx S (fun hc90=>?_) (fun hc90=>?_)
 ·have h5:e.key.kind=5:=by have:=hc90; simpa[jE.key]using this
  refine an3<|adr S 3 [.mem 0 51] [(36,v30),(38,.agg e.color.cells.toArray)] (fun S=>?_);obtain⟨R,Y91⟩:=R.aT S (aoc FW);have q92:=S.E.size;have q93:=R.lt;refine anB S (some 39) (qC (c:=e.color)) ?_;rintro e u ⟨v94,rfl,akz,E96⟩;refine⟨_,rfl,E96,fun ac S=>?_⟩;obtain⟨p97,rfl,akA,akB⟩:=bF akz;obtain⟨R,Y98⟩:=R.aT S (aoc E96);have G99:Sx.Ow _ _ _ _:=Sx.oD.ow akB q92 q93;refine anP S 40 1 [p97.v] (fun ac u ai4 WI ady S=>?_);obtain⟨R,ahr⟩:=R.aT S (aoG WI ady);refine anW S R 0 41 rfl jF (Sx.lC (m:=1) (k:=1) (A:=[p97.v]) (S.bx 0)) (by show([vX,p26]).length+1≤9223372036854775807; simp only[an5,aop,aoy]; omega) (by show(([vX,p26]).length+1)*24≤140737488355328; simp only[an5,aop,aoy]; omega) (fun ac u XG ahs R S=>?_);have R:=R.as (show [(⟨49,1,XG,([vX,p26]).length+1,([vX,p26]).map dA.v++[p97.v]⟩:Sx.Row)]=[pR XG ([vX,p26]++[p97])] by simp[pR]);have S:=S.gq 1;obtain⟨R,afx⟩:=R.aT S (aoD 1);have akC:Sx.Ow _ _ (bG ([vX,p26]++[p97])) _:=(aok (aol (aoh G33 (an4 Y91 (an4 Y98 (an4 ahr (an4 ahs afx))))) (aok (aol (aoh G99 (an4 ahr (an4 ahs afx))) (fun _ _ _=>bG.nil _)) fun _ h=>bG.cons h.1 h.2)) fun _ h=>bG.app h.1 h.2);have aht:=iW afF (eH akA);refine adr S 1 [] [(4,XG)] fun S=>anu<|acf _ _<|anv (fun _ ZV=>?_);have hBn:([71,69,49])++((bH [e.kind,e.id,e.index,e.depth]))++((Px.pb e.color))=qA e.key:=by unfold qA IX; rw[an0 hk,an6 h5]; simp only[aoU,ao6]; rfl
  have hfz:=aht.trans hBn;have hm2:mV e.key=true→e.key.node.chk=0:=fun hx=>by rw[hh]at hx; cases hx
  have hbm:=xO hm2;refine adr S 1 [] [(42,XG)] (fun S=>?_);have hall:=qG (lI R (akC).self) hfz (by omega);have S0:=S.E.size;refine anB S (some 43) (hall) ?_;rintro e u ⟨anj,rfl,ahu,akD⟩;refine⟨_,rfl,akD,fun ac S=>?_⟩;have S1:=S.E.size;refine anB S (some 44) (uT _ (qA e.key) _ (kQ ((au ahu S0))) (by omega)) ?_;rintro e u ⟨v42,rfl,Tn,akE⟩;refine⟨_,rfl,akE,fun ac S=>?_⟩;refine adr S 2 [] [(2,v42),(3,.i 0)] fun S=>anu<|ZV _ _<|Sx.Pq S results15 ?_;exact⟨_,_,rfl,.inr (.inr ⟨m1,hm2,(au Tn S1),rfl⟩),S.E⟩
 have h5:¬e.key.kind=5:=by have:=hc90; simpa[jE.key]using this
 refine anZ<|acf _ _<|anv (fun _ ahv=>?_);have hBn:([71,69,49])++((bH [e.kind,e.id,e.index,e.depth]))=qA e.key:=by unfold qA IX; rw[an0 hk,an0 h5]; simp only[aoU,ao6]; rfl
 have hfz:=afF.trans hBn;have hm2:mV e.key=true→e.key.node.chk=0:=fun hx=>by rw[hh]at hx; cases hx
 have hbm:=xO hm2;refine adr S 1 [] [(42,v30)] (fun S=>?_);obtain⟨R,akF⟩:=R.aT S (aoc FW);have hall:=qG (lI R ((aoh G33 akF)).self) hfz (by omega);have S0:=S.E.size;refine anB S (some 43) (hall) ?_;rintro e u ⟨ank,rfl,ahw,akG⟩;refine⟨_,rfl,akG,fun ac S=>?_⟩;have S1:=S.E.size;refine anB S (some 44) (uT _ (qA e.key) _ (kQ ((au ahw S0))) (by omega)) ?_;rintro e u ⟨v42,rfl,Tn,akH⟩;refine⟨_,rfl,akH,fun ac S=>?_⟩;refine adr S 2 [] [(2,v42),(3,.i 0)] fun S=>anu<|ahv _ _<|Sx.Pq S results15 ?_;exact⟨_,_,rfl,.inr (.inr ⟨m1,hm2,(au Tn S1),rfl⟩),S.E⟩
end
section
open Go.RowKit En
variable{α:Type}{K:Nat}
theorem xM.pair{b b':Nat}{w:World}{s:jU}{v u:Value}{er er':Int}(h:xM b w s v er)(k:xM b' w s u er'):er=er'∧∃bs,bI w v bs∧bI w u bs:=by
 rcases h with ⟨h1,h2,h3⟩ | ⟨h1,rfl,h3⟩<;>rcases k with ⟨k1,k2,k3⟩ | ⟨k1,rfl,k3⟩
 ·exact⟨h3.trans k3.symm,_,kQ h2,kQ k2⟩
 ·rw[h1]at k1; cases k1
 ·rw[h1]at k1; cases k1
 exact⟨h3.trans k3.symm,[],iT (jD _ _ _),iT (jD _ _ _)⟩
theorem zu.pair{b b':Nat}{w:World}{s:qw}{v u:Value}{er er':Int}(h:zu b w s v er)(k:zu b' w s u er'):er=er'∧∃bs,bI w v bs∧bI w u bs:=by
 rcases h with ⟨h1,rfl,h3⟩ | ⟨h1,h2,h3,rfl,h5⟩ | ⟨h1,h2,h3,h4⟩<;>rcases k with ⟨k1,rfl,k3⟩ | ⟨k1,k2,k3,rfl,k5⟩ | ⟨k1,k2,k3,k4⟩
 ·exact⟨h3.trans k3.symm,[],iT (jD _ _ _),iT (jD _ _ _)⟩
 ·rw[h1]at k1; cases k1
 ·rw[h1]at k1; cases k1
 ·rw[h1]at k1; cases k1
 ·exact⟨h5.trans k5.symm,[],iT (jD _ _ _),iT (jD _ _ _)⟩
 ·exact absurd (k2 h2) h3
 ·rw[h1]at k1; cases k1
 ·exact absurd (h2 k2) k3
 exact⟨h4.trans k4.symm,_,kQ h3,kQ k3⟩
theorem xM.e2{base:Nat}{w w':World}{s:jU}{v:Value}{er:Int}(h:xM base w s v er)(e:Ext w w'):xM base w' s v er:=by
 rcases h with ⟨h1,h2,h3⟩ | h
 ·exact .inl ⟨h1,anL h2 e,h3⟩
 exact .inr h
theorem zu.e2{base:Nat}{w w':World}{s:qw}{v:Value}{er:Int}(h:zu base w s v er)(e:Ext w w'):zu base w' s v er:=by
 rcases h with h | h | ⟨h1,h2,h3,h4⟩
 ·exact .inl h
 ·exact .inr (.inl h)
 exact .inr (.inr ⟨h1,h2,anL h3 e,h4⟩)
set_option maxRecDepth 100000 in
set_option maxHeartbeats 3200000 in
theorem zM{w:World}{s:dF}{d:jE}{n:aA}(h:s.ok w)(h':d.ok w)(hn:n.ok w)(hg:gI w) :
  Calls prog 3 #[s.v,d.v,n.v] w fun r w'=>r = .returned (.bool true)∧Ext w w':=by
 skip;refine anA func3 ntmps3 fun ac S=>anv fun _ aS=>anw S 3 s.cells fun ac u b2 E3 hb4 S=>anw S 4 d.cells fun ac u b5 E6 hb7 S=>anw S 5 n.cells fun ac u b8 E9 wH S=>adr S 1 [] [(6,.z)] fun S=>anu<|aS _ _<|anV fun _ cZ=>anv fun _ dW=>adr S 1 [.mem 2 0] [(15,s.v)] fun S=>anE S 16 (Xz ⟨(h.2.2.1.below S.E),fun n hn=>(h.2.2.2 n hn).below S.E⟩ 12) fun ac u Dv S=>anK S 12 [.mem 1 4,.mem 0 0] [(_,_,(!(!(s.few 12))),.bool d.node.kG),(_,_,(!((!(s.few 12))||(!d.node.kG))),.bool n.kG)] [(28,.bool (((!(s.few 12))||(!d.node.kG))||(!n.kG)))] ⟨fun u hC g=>xI (h'.2.2.2.2.below (Ext.trans' S.E hC)),fun u hC g=>xI (hn.below (Ext.trans' S.E hC)),trivial⟩ fun ac u zD S=>anu (dW _ _ ?_);refine anx S (fun vw=>?_) (fun vw=>?_)
 ·refine anv fun _ iM=>anE S 29 (PY (gI.below hg S.E)) fun ac u wI S=>adr S 1 [] [(6,.bool true)] fun S=>anu<|iM _ _<|anz S results3 ?_;exact⟨rfl,S.E⟩
 have hc0:s.few 12=true∧d.node.kG=true∧n.kG=true:=by have:=vw; simp at this; simp[this]
 have hS0:=(aaP hc0.1 h.1 h.2.1 h.2.2).1;have hD0:sO 20 w d:=⟨h'.1,h'.2.1,h'.2.2.1,h'.2.2.2.1,(vV hc0.2.1 h'.2.2.2.2).1⟩;have hN0:=(vV hc0.2.2 hn).1;refine anZ<|cZ _ _<|anv fun _ iI=>adr S 1 [.mem 2 0] [(31,s.v)] fun S=>anB S (some 32) (Ep (hS0.below S.E) (gI.below hg S.E)) ?_;rintro e u ⟨v1,er1,rfl,hc1,Il⟩;refine⟨_,rfl,Il,fun ac S=>?_⟩;refine adr S 5 [] [(7,v1),(8,.i er1)] fun S=>anu<|iI _ _<|anv fun _ jk=>adr S 1 [.mem 2 0] [(36,s.v)] fun S=>anB S (some 37) (Dn (hS0.below S.E)) ?_;rintro e u ⟨v2,er2,rfl,hc2,uh⟩;refine⟨_,rfl,uh,fun ac S=>?_⟩;refine adr S 5 [] [(9,v2),(10,.i er2)] fun S=>anu<|jk _ _<|anv fun _ jA=>adr S 1 [.mem 1 0] [(41,d.v)] fun S=>anB S (some 42) (Hy (hD0.below S.E) (gI.below hg S.E)) ?_;rintro e u ⟨v3,er3,rfl,hc3,CJ⟩;refine⟨_,rfl,CJ,fun ac S=>?_⟩;refine adr S 5 [] [(11,v3),(12,.i er3)] fun S=>anu<|jA _ _<|anv fun _ jY=>adr S 1 [.mem 1 0] [(46,d.v)] fun S=>anB S (some 47) (Es (hD0.below S.E)) ?_;rintro e u ⟨v4,er4,rfl,hc4,Ap⟩;refine⟨_,rfl,Ap,fun ac S=>?_⟩;refine adr S 5 [] [(13,v4),(14,.i er4)] fun S=>anu<|jY _ _<|anV (fun _ jf=>?_);obtain⟨rfl,bs,hb1,hb2⟩:=xM.pair (((xM.e2 hc1 (Ext.trans' uh (Ext.trans' CJ Ap))))) (((xM.e2 hc2 (Ext.trans' CJ Ap))));obtain⟨rfl,es,hb3,hb4⟩:=zu.pair (((zu.e2 hc3 Ap))) (hc4);have EG:=S.E;refine Sx.adM S 35 (Rel.is (v1)::Rel.is (.string ⟨bs.toArray⟩)::Rel.is (v2)::Rel.is (.string ⟨bs.toArray⟩)::Rel.is (.bool true)::Rel.is (.bool true)::Rel.is (.i er1)::Rel.is (.i er1)::Rel.is (.bool true)::Rel.is (.bool true)::Rel.is (.bool true)::Rel.is (v3)::Rel.is (.string ⟨es.toArray⟩)::Rel.is (v4)::Rel.is (.string ⟨es.toArray⟩)::Rel.is (.bool true)::Rel.is (.bool true)::Rel.is (.bool true)::Rel.is (.i er3)::Rel.is (.i er3)::Rel.is (.bool true)::Rel.is (.bool true)::Rel.is (.bool true)::Rel.is (n.v)::(fun v w1=>mF w1 v (if n.checkN=0 then fF false n.key else []))::Rel.is (.string ⟨(if n.checkN=0 then fF false n.key else []).toArray⟩)::Rel.is (n.v)::(fun v w1=>mF w1 v (if n.checkN=0 then fF false n.key else []))::Rel.is (.string ⟨(if n.checkN=0 then fF false n.key else []).toArray⟩)::Rel.is (.bool true)::Rel.is (.bool true)::Rel.is (.bool true)::Rel.is (.bool true)::Rel.is (.bool true)::Rel.is (.bool true)::[]) 34 6 (.bool true) ⟨Rel.aI _,Rel.aI _,Rel.aI _,Rel.aI _,Rel.aI _,Rel.aI _,Rel.aI _,Rel.aI _,Rel.aI _,Rel.aI _,Rel.aI _,Rel.aI _,Rel.aI _,Rel.aI _,Rel.aI _,Rel.aI _,Rel.aI _,Rel.aI _,Rel.aI _,Rel.aI _,Rel.aI _,Rel.aI _,Rel.aI _,Rel.aI _,fun _ _ _ e h=>aV.below h e,Rel.aI _,Rel.aI _,fun _ _ _ e h=>aV.below h e,Rel.aI _,Rel.aI _,Rel.aI _,Rel.aI _,Rel.aI _,Rel.aI _,Rel.aI _,trivial⟩ ⟨fun ρ u1 hs ho hC hD=>anG hs [(7,v1)] ⟨(ho 7 rfl).trans (S.s.ev rfl),trivial⟩,
  fun ρ u1 hs ho hC hD=>Sx.PO (x:=50) (hD.1 rfl) (hb1.below hC),
  fun ρ u1 hs ho hC hD=>anG hs [(9,v2)] ⟨(ho 9 rfl).trans (S.s.ev rfl),trivial⟩,
  fun ρ u1 hs ho hC hD=>Sx.PO (x:=52) (hD.1 rfl) (hb2.below hC),
  fun ρ u1 hs ho hC hD=>Sx.acL (hD.1 rfl) (hD.2.1 rfl) (by simp),
  fun ρ u1 hs ho hC hD=>anG hs [(54,.bool true)] ⟨hD.1 rfl,trivial⟩,
  fun ρ u1 hs ho hC hD=>⟨fun _=>anG hs [(8,.i er1)] ⟨(ho 8 rfl).trans (S.s.ev rfl),trivial⟩,fun hn=>absurd (hD.1 rfl) hn⟩,
  fun ρ u1 hs ho hC hD=>⟨fun _=>anG hs [(10,.i er1)] ⟨(ho 10 rfl).trans (S.s.ev rfl),trivial⟩,fun hn=>absurd (hD.1 rfl) hn⟩,
  fun ρ u1 hs ho hC hD=>⟨fun _=>Sx.dvb hs [(56,.i er1),(57,.i er1)] (er1==er1) ⟨hD.1 rfl,hD.2.1 rfl,trivial⟩ (by simp),fun hn=>absurd (hD.2.2.1 rfl) hn⟩,
  fun ρ u1 hs ho hC hD=>anG hs [(55,.bool true),(58,.bool true)] ⟨hD.1 rfl,hD.2.1 rfl,trivial⟩,
  fun ρ u1 hs ho hC hD=>anG hs [(59,.bool true)] ⟨hD.1 rfl,trivial⟩,
  fun ρ u1 hs ho hC hD=>⟨fun _=>anG hs [(11,v3)] ⟨(ho 11 rfl).trans (S.s.ev rfl),trivial⟩,fun hn=>absurd (hD.1 rfl) hn⟩,
  fun ρ u1 hs ho hC hD=>⟨fun _=>Sx.PO (x:=61) (hD.1 rfl) (hb3.below hC),fun hn=>absurd (hD.2.1 rfl) hn⟩,
  fun ρ u1 hs ho hC hD=>⟨fun _=>anG hs [(13,v4)] ⟨(ho 13 rfl).trans (S.s.ev rfl),trivial⟩,fun hn=>absurd (hD.1 rfl) hn⟩,
  fun ρ u1 hs ho hC hD=>⟨fun _=>Sx.PO (x:=63) (hD.1 rfl) (hb4.below hC),fun hn=>absurd (hD.2.1 rfl) hn⟩,
  fun ρ u1 hs ho hC hD=>⟨fun _=>Sx.acL (hD.1 rfl) (hD.2.1 rfl) (by simp),fun hn=>absurd (hD.2.2.1 rfl) hn⟩,
  fun ρ u1 hs ho hC hD=>anG hs [(60,.bool true),(65,.bool true)] ⟨hD.1 rfl,hD.2.1 rfl,trivial⟩,
  fun ρ u1 hs ho hC hD=>anG hs [(66,.bool true)] ⟨hD.1 rfl,trivial⟩,
  fun ρ u1 hs ho hC hD=>⟨fun _=>anG hs [(12,.i er3)] ⟨(ho 12 rfl).trans (S.s.ev rfl),trivial⟩,fun hn=>absurd (hD.1 rfl) hn⟩,
  fun ρ u1 hs ho hC hD=>⟨fun _=>anG hs [(14,.i er3)] ⟨(ho 14 rfl).trans (S.s.ev rfl),trivial⟩,fun hn=>absurd (hD.1 rfl) hn⟩,
  fun ρ u1 hs ho hC hD=>⟨fun _=>Sx.dvb hs [(68,.i er3),(69,.i er3)] (er3==er3) ⟨hD.1 rfl,hD.2.1 rfl,trivial⟩ (by simp),fun hn=>absurd (hD.2.2.1 rfl) hn⟩,
  fun ρ u1 hs ho hC hD=>anG hs [(67,.bool true),(70,.bool true)] ⟨hD.1 rfl,hD.2.1 rfl,trivial⟩,
  fun ρ u1 hs ho hC hD=>anG hs [(71,.bool true)] ⟨hD.1 rfl,trivial⟩,
  fun ρ u1 hs ho hC hD=>⟨fun _=>Sx.dld ((ho 5 rfl).trans (S.s.ev rfl)) (((S.bx 0).ext hC).range 0 47 rfl),fun hn=>absurd (hD.1 rfl) hn⟩,
  fun ρ u1 hs ho hC hD=>⟨fun _=>Sx.dc (T:=fun v w1=>mF w1 v (if n.checkN=0 then fF false n.key else [])) hs [(73,n.v)] ⟨hD.1 rfl,trivial⟩ ((Hu (hN0.below (Ext.trans' EG hC)) (gI.below hg (Ext.trans' EG hC))).mono fun e w2 ⟨v,h1,h2,h3⟩=>⟨v,h1,h3,rowB h2⟩),fun hn=>absurd (hD.2.1 rfl) hn⟩,
  fun ρ u1 hs ho hC hD=>⟨fun _=>Sx.PO (x:=74) (rfl) (iT (hD.1 rfl)),fun hn=>absurd (hD.2.1 rfl) hn⟩,
  fun ρ u1 hs ho hC hD=>⟨fun _=>Sx.dld ((ho 5 rfl).trans (S.s.ev rfl)) (((S.bx 0).ext hC).range 0 47 rfl),fun hn=>absurd (hD.1 rfl) hn⟩,
  fun ρ u1 hs ho hC hD=>⟨fun _=>Sx.dc (T:=fun v w1=>mF w1 v (if n.checkN=0 then fF false n.key else [])) hs [(76,n.v)] ⟨hD.1 rfl,trivial⟩ ((vY (hN0.below (Ext.trans' EG hC))).mono fun e w2 ⟨v,h1,h2,h3⟩=>⟨v,h1,h3,rowB h2⟩),fun hn=>absurd (hD.2.2.1 rfl) hn⟩,
  fun ρ u1 hs ho hC hD=>⟨fun _=>Sx.PO (x:=77) (rfl) (iT (hD.1 rfl)),fun hn=>absurd (hD.2.1 rfl) hn⟩,
  fun ρ u1 hs ho hC hD=>⟨fun _=>Sx.acL (hD.1 rfl) (hD.2.1 rfl) (by simp),fun hn=>absurd (hD.2.2.1 rfl) hn⟩,
  fun ρ u1 hs ho hC hD=>anG hs [(72,.bool true),(79,.bool true)] ⟨hD.1 rfl,hD.2.1 rfl,trivial⟩,
  fun ρ u1 hs ho hC hD=>anG hs [(80,.bool true)] ⟨hD.1 rfl,trivial⟩,
  fun ρ u1 hs ho hC hD=>⟨fun _=>Sx.dc (T:=Rel.is (.bool true)) hs [] trivial ((PY (gI.below hg (Ext.trans' EG hC))).mono fun e w2 h=>⟨_,h.1,h.2,rfl⟩),fun hn=>absurd (hD.1 rfl) hn⟩,
  fun ρ u1 hs ho hC hD=>anG hs [(81,.bool true),(82,.bool true)] ⟨hD.1 rfl,hD.2.1 rfl,trivial⟩,
  fun ρ u1 hs ho hC hD=>anG hs [(83,.bool true)] ⟨hD.1 rfl,trivial⟩,trivial⟩ (fun ac u E27 S=>?_) rfl
 refine anu<|jf _ _<|anz S results3 ?_;exact⟨rfl,S.E⟩
end
end Go.Proofs.YtapmgonflgahbaaGreatDoor
