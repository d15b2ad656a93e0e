/- The laws' own example: a scene of three nodes. Reference -/
import Derived.Test.YtapmgonflgahbaaGreatDoorPk31
import Derived.Test.YtapmgonflgahbaaGreatDoorSb5
set_option linter.unusedVariables false
namespace Go.Proofs.YtapmgonflgahbaaGreatDoor
open _root_.Go.Proofs.Tryz
section
open Go.RowKit
variable{α:Type}{K:Nat}
theorem rC{f:FuncId}{args:Array Value}{w:World}{v v':Value}(h:Calls prog f args w fun e w'=>e = .returned v∧Ext w w')(hv:v=v'):Calls prog f args w fun e w'=>e = .returned v'∧Ext w w':=hv▸h
end
section
open Go.RowKit
variable{α:Type}{K:Nat}
theorem WH{w:World}{a b:aA}(h:fB K w a)(h':fB K w b):Calls prog 63 #[a.v,b.v] w fun e w'=>e = .returned (.bool (a.key=b.key))∧Ext w w':=by
 rw[←ae6 h.nrm h'.nrm]; exact KW h h'
set_option maxRecDepth 100000 in
set_option maxHeartbeats 3200000 in
theorem Qp{w:World}{s t:bF}(h:eX K w s)(h':eX K w t) :
  Calls prog 22 #[s.v,t.v] w fun e w'=>e = .returned (.bool (s.key=t.key))∧Ext w w':=by
 have hmax:s.ns.length≤9223372036854775807:=h.2.2.1.len;refine avU func22 ntmps22 (fun ac S=>?_);obtain⟨a,cap,es⟩:∃a c,s.s = .slice a s.ns.length c:=⟨_,_,rfl⟩;have hr:=h.2.2.1;rw[es]at hr;obtain⟨d,cap',et⟩:∃a c,t.s = .slice a t.ns.length c:=⟨_,_,rfl⟩;have hr':=h'.2.2.1;rw[et]at hr';refine avP fun _ aV=>avQ S 2 s.cells fun ac u b2 E3 hb4 S=>avQ S 3 t.cells fun ac u b5 E6 hb7 S=>adr S 1 [] [(4,.z)] fun S=>apB<|aV _ _<|awg fun _ dS=>avP fun _ ig=>adr S 28 [.mem 1 0,.mem 0 0,.mem 1 1,.mem 0 1,.mem 1 2,.mem 0 2,.cmp .neq 23 (.tmp 20) (.tmp 22) (.agg #[.u (s.bg.r.toNat:Int),.u (s.bg.g.toNat:Int),.u (s.bg.b.toNat:Int),.u (s.bg.a.toNat:Int)]) (.agg #[.u (t.bg.r.toNat:Int),.u (t.bg.g.toNat:Int),.u (t.bg.b.toNat:Int),.u (t.bg.a.toNat:Int)]) (.bool (!decide (s.bg=t.bg))),.mem 1 6,.re 27 s.s (.slice a s.ns.length cap),.mem 0 6,.re 30 t.s (.slice d t.ns.length cap')] [(33,.bool (((((s.w) != t.w)||((s.h) != t.h))||(!decide (s.bg=t.bg)))||(((s.ns.length:Int)) != (t.ns.length:Int))))] (hk:=⟨(awe (fun _=>acs s.bg t.bg _) (by kernel_rfl)),es,et,trivial⟩) fun S=>apB (ig _ _ ?_);refine avR S (fun dR=>?_) (fun dR=>?_)
 ·refine avP fun _ eG=>adr S 1 [] [(4,.z)] fun S=>apB<|eG _ _<|avS S results22 ?_;exact⟨aH (agD dR),S.E⟩
 refine awh<|dS _ _<|awg fun _ dV=>avP fun _ gW=>adr S 1 [] [(5,.i 0)] fun S=>apB<|gW _ _<|awi ?_;refine awS (ι:=Nat) (fun p a' w'=>p≤s.ns.length∧((keys s.ns).take p=(keys t.ns).take p)∧Sx.St w a' w' 53 [(0,s.v),(1,t.v),(2,.q b2 0),(3,.q b5 0),(4,.z),(5,.i p)] [(b5,t.cells),(b2,s.cells)] []) (fun p=>s.ns.length-p) (0) ⟨awt _,rfl,S.sn⟩ ?_;rintro k ac u hI;try dsimp only at hI
 obtain⟨hk,hR,S⟩:=hI;refine awg fun _ gK=>avP fun _ iG=>adr S 5 [.mem 1 6,.re 36 s.s (.slice a s.ns.length cap)] [(38,.bool ((k:Int)<(s.ns.length:Int)))] (hk:=⟨es,trivial⟩) fun S=>apB (iG _ _ ?_);refine avR S (fun hc16=>?_) (fun hc16=>?_)
 ·refine awh<|gK _ _<|awg fun _ gI=>awi<|awg (fun _ iZ=>?_);have um:k<s.ns.length:=by have:=awz hc16; omega
  obtain⟨b20,o21,rfl,fP,hx24,OA,OB⟩:=awN hr (fun _=>rfl) (k) um;have S:=S.view0 OA OB;have uo:k<t.ns.length:=by have:=LX dR; have:=awz hc16; omega
  obtain⟨b28,o29,rfl,y34,hx32,SG,SH⟩:=awN hr' (fun _=>rfl) (k) uo;have S:=S.view0 SG SH;refine av3 S 12 [.mem 1 6,.re 42 s.s (.slice (some ⟨b20,o21,none⟩) s.ns.length cap),.idx k s.ns.length,.mem 3 0,.mem 0 6,.re 47 t.s (.slice (some ⟨b28,o29,none⟩) t.ns.length cap'),.idx k t.ns.length,.mem 2 0] [(_,_,true,.bool (fP.key=y34.key))] [(52,.bool (!(decide (fP.key=y34.key))))] ⟨fun u hC g=>WH ((h.2.2.2 _ (hx24▸awT um)).below (Ext.trans' S.E hC)) ((h'.2.2.2 _ (hx32▸awT uo)).below (Ext.trans' S.E hC)),trivial⟩ (hk:=⟨es,um,et,uo,trivial⟩) fun ac u Ep S=>apB (iZ _ _ ?_);refine avR S (fun qQ=>?_) (fun qQ=>?_)
  ·refine avP fun _ nV=>adr S 1 [] [(4,.z)] fun S=>apB<|nV _ _<|avS S results22 ?_;exact⟨aH (Wj dR (agC um uo hx24 hx32 qQ)),S.E⟩
  refine awh<|gI _ _<|awk<|adr S 3 [.re 40 (.i (IntKind.i64.wrap ((k:Int)+1))) (.i (k+1:Nat))] [(5,.i (k+1:Nat))] (hk:=⟨av5 (by omega),trivial⟩) fun S=>apB ?_;show ∃i',_∧_;exact⟨(k+1),⟨by omega,(Wi um uo hR hx24 hx32 qQ),S.sn⟩,by show _-_<_-_; omega⟩
 refine awy<|dV _ _<|avP fun _ jD=>adr S 1 [] [(4,.bool true)] fun S=>apB<|jD _ _<|avS S results22 ?_;exact⟨aH (Wj dR (acu (by have:=awG hc16; omega) (LX dR) hR)),S.E⟩
end
section
open Go.RowKit
variable{α:Type}{K:Nat}
set_option maxRecDepth 100000 in
set_option maxHeartbeats 3200000 in
theorem og{w:World}(hg:cO w) :
  Calls prog 11 #[] w fun e w'=>e = .returned (.bool true)∧Ext w w':=by
 skip;refine avU func11 ntmps11 fun ac S=>avP fun _ aV=>adr S 1 [] [(0,.z)] fun S=>apB<|aV _ _<|avP fun _ fK=>awc S 10 10 [.u 71,.u 83,.u 49,.u 8,.u 8,.u 255,.u 255,.u 255,.u 255,.u 0] fun ac u b3 E4 hb5 S=>avV S (some 11) (YV _ m0 _ (fO (Sx.jJ (f:=fA) m0 (S.bx 0) (by decide))) (by decide)) ?_;rintro e u ⟨v1,rfl,ho1,E6⟩;refine⟨_,rfl,E6,fun ac S=>?_⟩;refine adr S 1 [] [(1,v1)] fun S=>apB<|fK _ _<|avP fun _ jr=>avZ S 13 (Hq) fun ac u E8 S=>avV S (some 14) ((by have hc:=yZ (K:=20) (WC _) (cO.below hg S.E) rfl Qm; rw[Qn]at hc; exact hc)) ?_;rintro e u ⟨v2,rfl,ho2,E9⟩;refine⟨_,rfl,E9,fun ac S=>?_⟩;refine adr S 5 [] [(2,v2),(3,.i 0)] fun S=>apB<|jr _ _<|avP fun _ dZ=>adr S 1 [] [(18,v1)] fun S=>avZ S 19 (Jd (cO.below hg S.E) (rowB ((Sx.bU ho1 (Ext.trans' E8 E9))))) fun ac u tJ S=>adr S 3 [] [(20,.agg #[.i 4,.i 4,.u 255,.u 255,.u 255,.u 255,.sn]),(21,.i 0)] fun S=>avQ S 4 [.i 0,.i 0,.u 0,.u 0,.u 0,.u 0,.sn] fun ac u b12 Ad aif S=>avT S 0 (off:=0) (cs:=[.i 4,.i 4,.u 255,.u 255,.u 255,.u 255,.sn]) rfl (fun u C15 S=>?_);have E5:=avW (Ext.trans' E8 (Ext.trans' E9 (Ext.trans' tJ Ad))) C15 (by have:=(Ext.trans' E8 (Ext.trans' E9 tJ)).size; omega);have uS:=avW (Ext.trans' tJ Ad) C15 (by have:=tJ.size; omega);refine adr S 1 [] [(5,.i 0)] fun S=>apB<|dZ _ _<|avP fun _ iZ=>adr S 1 [] [(23,.agg (Sx.L [.i 2,.i 3,.i 0,.i 0,.i 0,.i 0,.i 0]++Sx.za++Sx.L [.sn,.i 0,.u 0,.i 0,.z,.z,.sn,.i 0,.sn,.i 0,.i 0,.i 0,.i 0,.sn,.i 0,.sn,.i 0,.i 0,.sn,.i 0,.u 0,.u 0,.u 0,.u 0]).toArray)] fun S=>avV S (some 24) (wE) ?_;rintro e u ⟨v6,rfl,ho6,Ep⟩;refine⟨_,rfl,Ep,fun ac S=>?_⟩;refine adr S 5 [] [(6,v6),(7,.i 0)] fun S=>apB<|iZ _ _<|avP fun _ l9=>adr S 1 [] [(28,v6)] fun S=>avZ S 29 (MB (rowB (ho6))) fun ac u wu S=>adr S 3 [] [(30,.agg (Sx.L [.i 2,.i 3,.i 0,.i 0,.i 0,.i 0,.i 0]++Sx.za++Sx.L [.sn,.i 0,.u 0,.i 0,.z,.z,.sn,.i 0,.sn,.i 0,.i 0,.i 0,.i 0,.sn,.i 0,.sn,.i 0,.i 0,.sn,.i 0,.u 0,.u 0,.u 0,.u 0]).toArray),(31,.i 0)] fun S=>avQ S 8 (Sx.L [.i 0,.i 0,.i 0,.i 0,.i 0,.i 0,.i 0]++Sx.za++Sx.L [.sn,.i 0,.u 0,.i 0,.z,.z,.sn,.i 0,.sn,.i 0,.i 0,.i 0,.i 0,.sn,.i 0,.sn,.i 0,.i 0,.sn,.i 0,.u 0,.u 0,.u 0,.u 0]) fun ac u b22 SL aew S=>avT S 0 (off:=0) (cs:=(Sx.L [.i 2,.i 3,.i 0,.i 0,.i 0,.i 0,.i 0]++Sx.za++Sx.L [.sn,.i 0,.u 0,.i 0,.z,.z,.sn,.i 0,.sn,.i 0,.i 0,.i 0,.i 0,.sn,.i 0,.sn,.i 0,.i 0,.sn,.i 0,.u 0,.u 0,.u 0,.u 0])) rfl (fun u KN S=>?_);have Rl:=avW (Ext.trans' E5 (Ext.trans' Ep (Ext.trans' wu SL))) KN (by have:=(Ext.trans' E5 (Ext.trans' Ep wu)).size; omega);have NJ:=avW (Ext.trans' uS (Ext.trans' Ep (Ext.trans' wu SL))) KN (by have:=(Ext.trans' uS (Ext.trans' Ep wu)).size; omega);have KY:=avW (Ext.trans' wu SL) KN (by have:=wu.size; omega);refine adr S 1 [] [(9,.i 0)] fun S=>apB<|l9 _ _<|awg (fun _ pO=>?_);have L8:=S.E;refine Sx.am7 S 43 (Rel.is (.i 0)::Rel.is (.bool true)::Rel.is (.bool true)::Rel.is (v2)::Rel.is (.string ⟨(dU.app m0).toArray⟩)::Rel.is (v1)::Rel.is (.string ⟨(dU.app m0).toArray⟩)::Rel.is (.bool true)::Rel.is (.bool true)::Rel.is (.bool true)::Rel.is (.i 0)::Rel.is (.bool true)::Rel.is (.bool true)::Rel.is (.bool true)::Rel.is (.agg #[.i 4,.i 4,.u 255,.u 255,.u 255,.u 255,.sn])::Rel.is (.agg #[.i 4,.i 4,.u 255,.u 255,.u 255,.u 255,.sn])::Rel.is (.bool true)::Rel.is (.bool true)::Rel.is (.bool true)::Rel.is (.i 0)::Rel.is (.bool true)::Rel.is (.bool true)::Rel.is (.bool true)::Rel.is (.i 0)::Rel.is (.bool true)::Rel.is (.bool true)::Rel.is (.bool true)::Rel.is (.q b22 0)::Rel.is (.i 2)::Rel.is (.bool true)::Rel.is (.bool true)::Rel.is (.bool true)::Rel.is (.q b22 1)::Rel.is (.i 3)::Rel.is (.bool true)::Rel.is (.bool true)::Rel.is (.bool true)::Rel.is (.agg (Sx.L [.i 0,.i 0,.i 0]++Sx.za++Sx.L [.sn,.i 0,.u 0,.i 0,.z,.z,.sn,.i 0,.sn,.i 0,.i 0,.i 0,.i 0,.sn,.i 0,.sn,.i 0,.i 0,.sn,.i 0]).toArray)::Rel.is (.sn)::Rel.is (.i 0)::Rel.is (.bool true)::Rel.is (.bool true)::Rel.is (.bool true)::[]) 42 0 (.bool true) ⟨Rel.aN _,Rel.aN _,Rel.aN _,Rel.aN _,Rel.aN _,Rel.aN _,Rel.aN _,Rel.aN _,Rel.aN _,Rel.aN _,Rel.aN _,Rel.aN _,Rel.aN _,Rel.aN _,Rel.aN _,Rel.aN _,Rel.aN _,Rel.aN _,Rel.aN _,Rel.aN _,Rel.aN _,Rel.aN _,Rel.aN _,Rel.aN _,Rel.aN _,Rel.aN _,Rel.aN _,Rel.aN _,Rel.aN _,Rel.aN _,Rel.aN _,Rel.aN _,Rel.aN _,Rel.aN _,Rel.aN _,Rel.aN _,Rel.aN _,Rel.aN _,Rel.aN _,Rel.aN _,Rel.aN _,Rel.aN _,Rel.aN _,trivial⟩ ⟨fun ρ u1 hs ho hC hD=>av6 hs [(3,.i 0)] ⟨(ho 3 rfl).trans (S.s.ev rfl),trivial⟩,
  fun ρ u1 hs ho hC hD=>av6 hs [(32,.i 0)] ⟨hD.1 rfl,trivial⟩,
  fun ρ u1 hs ho hC hD=>av6 hs [(33,.bool true)] ⟨hD.1 rfl,trivial⟩,
  fun ρ u1 hs ho hC hD=>⟨fun _=>av6 hs [(2,v2)] ⟨(ho 2 rfl).trans (S.s.ev rfl),trivial⟩,fun hn=>absurd (hD.1 rfl) hn⟩,
  fun ρ u1 hs ho hC hD=>⟨fun _=>Sx.am6 (x:=35) (hD.1 rfl) (kZ ((Sx.bU ho2 (Ext.trans' NJ hC)))),fun hn=>absurd (hD.2.1 rfl) hn⟩,
  fun ρ u1 hs ho hC hD=>⟨fun _=>av6 hs [(1,v1)] ⟨(ho 1 rfl).trans (S.s.ev rfl),trivial⟩,fun hn=>absurd (hD.1 rfl) hn⟩,
  fun ρ u1 hs ho hC hD=>⟨fun _=>Sx.am6 (x:=37) (hD.1 rfl) (kZ ((Sx.bU ho1 (Ext.trans' Rl hC)))),fun hn=>absurd (hD.2.1 rfl) hn⟩,
  fun ρ u1 hs ho hC hD=>⟨fun _=>Sx.aqC (hD.1 rfl) (hD.2.1 rfl) (by simp),fun hn=>absurd (hD.2.2.1 rfl) hn⟩,
  fun ρ u1 hs ho hC hD=>av6 hs [(34,.bool true),(39,.bool true)] ⟨hD.1 rfl,hD.2.1 rfl,trivial⟩,
  fun ρ u1 hs ho hC hD=>av6 hs [(40,.bool true)] ⟨hD.1 rfl,trivial⟩,
  fun ρ u1 hs ho hC hD=>⟨fun _=>av6 hs [(5,.i 0)] ⟨(ho 5 rfl).trans (S.s.ev rfl),trivial⟩,fun hn=>absurd (hD.1 rfl) hn⟩,
  fun ρ u1 hs ho hC hD=>⟨fun _=>av6 hs [(42,.i 0)] ⟨hD.1 rfl,trivial⟩,fun hn=>absurd (hD.2.1 rfl) hn⟩,
  fun ρ u1 hs ho hC hD=>av6 hs [(41,.bool true),(43,.bool true)] ⟨hD.1 rfl,hD.2.1 rfl,trivial⟩,
  fun ρ u1 hs ho hC hD=>av6 hs [(44,.bool true)] ⟨hD.1 rfl,trivial⟩,
  fun ρ u1 hs ho hC hD=>⟨fun _=>Sx.dld ((ho 4 rfl).trans (S.s.ev rfl)) (((S.bx 1).ext hC).range 0 7 rfl),fun hn=>absurd (hD.1 rfl) hn⟩,
  fun ρ u1 hs ho hC hD=>⟨fun _=>Sx.dc (T:=Rel.is (.agg #[.i 4,.i 4,.u 255,.u 255,.u 255,.u 255,.sn])) hs [] trivial ((Hq).mono fun e w2 h=>⟨_,h.1,h.2,rfl⟩),fun hn=>absurd (hD.1 rfl) hn⟩,
  fun ρ u1 hs ho hC hD=>⟨fun _=>Sx.dc (T:=Rel.is (.bool true)) hs [(46,.agg #[.i 4,.i 4,.u 255,.u 255,.u 255,.u 255,.sn]),(47,.agg #[.i 4,.i 4,.u 255,.u 255,.u 255,.u 255,.sn])] ⟨hD.1 rfl,hD.2.1 rfl,trivial⟩ ((rC (Qp (K:=20) (WC u1) (WC u1)) (awp Value.bool (axg rfl))).mono fun e w2 h=>⟨_,h.1,h.2,rfl⟩),fun hn=>absurd (hD.2.2.2.1 rfl) hn⟩,
  fun ρ u1 hs ho hC hD=>av6 hs [(45,.bool true),(48,.bool true)] ⟨hD.1 rfl,hD.2.1 rfl,trivial⟩,
  fun ρ u1 hs ho hC hD=>av6 hs [(49,.bool true)] ⟨hD.1 rfl,trivial⟩,
  fun ρ u1 hs ho hC hD=>⟨fun _=>av6 hs [(7,.i 0)] ⟨(ho 7 rfl).trans (S.s.ev rfl),trivial⟩,fun hn=>absurd (hD.1 rfl) hn⟩,
  fun ρ u1 hs ho hC hD=>⟨fun _=>av6 hs [(51,.i 0)] ⟨hD.1 rfl,trivial⟩,fun hn=>absurd (hD.2.1 rfl) hn⟩,
  fun ρ u1 hs ho hC hD=>av6 hs [(50,.bool true),(52,.bool true)] ⟨hD.1 rfl,hD.2.1 rfl,trivial⟩,
  fun ρ u1 hs ho hC hD=>av6 hs [(53,.bool true)] ⟨hD.1 rfl,trivial⟩,
  fun ρ u1 hs ho hC hD=>⟨fun _=>av6 hs [(9,.i 0)] ⟨(ho 9 rfl).trans (S.s.ev rfl),trivial⟩,fun hn=>absurd (hD.1 rfl) hn⟩,
  fun ρ u1 hs ho hC hD=>⟨fun _=>av6 hs [(55,.i 0)] ⟨hD.1 rfl,trivial⟩,fun hn=>absurd (hD.2.1 rfl) hn⟩,
  fun ρ u1 hs ho hC hD=>av6 hs [(54,.bool true),(56,.bool true)] ⟨hD.1 rfl,hD.2.1 rfl,trivial⟩,
  fun ρ u1 hs ho hC hD=>av6 hs [(57,.bool true)] ⟨hD.1 rfl,trivial⟩,
  fun ρ u1 hs ho hC hD=>⟨fun _=>av6 hs [(8,.q b22 0)] ⟨(ho 8 rfl).trans (S.s.ev rfl),trivial⟩,fun hn=>absurd (hD.1 rfl) hn⟩,
  fun ρ u1 hs ho hC hD=>⟨fun _=>Sx.dld (hD.1 rfl) (((S.bx 0).ext hC).range 0 1 rfl),fun hn=>absurd (hD.2.1 rfl) hn⟩,
  fun ρ u1 hs ho hC hD=>⟨fun _=>av6 hs [(60,.i 2)] ⟨hD.1 rfl,trivial⟩,fun hn=>absurd (hD.2.1 rfl) hn⟩,
  fun ρ u1 hs ho hC hD=>av6 hs [(58,.bool true),(61,.bool true)] ⟨hD.1 rfl,hD.2.1 rfl,trivial⟩,
  fun ρ u1 hs ho hC hD=>av6 hs [(62,.bool true)] ⟨hD.1 rfl,trivial⟩,
  fun ρ u1 hs ho hC hD=>⟨fun _=>av6 hs [(8,.q b22 0)] ⟨(ho 8 rfl).trans (S.s.ev rfl),trivial⟩,fun hn=>absurd (hD.1 rfl) hn⟩,
  fun ρ u1 hs ho hC hD=>⟨fun _=>Sx.dld (hD.1 rfl) (((S.bx 0).ext hC).range 1 1 rfl),fun hn=>absurd (hD.2.1 rfl) hn⟩,
  fun ρ u1 hs ho hC hD=>⟨fun _=>av6 hs [(65,.i 3)] ⟨hD.1 rfl,trivial⟩,fun hn=>absurd (hD.2.1 rfl) hn⟩,
  fun ρ u1 hs ho hC hD=>av6 hs [(63,.bool true),(66,.bool true)] ⟨hD.1 rfl,hD.2.1 rfl,trivial⟩,
  fun ρ u1 hs ho hC hD=>av6 hs [(67,.bool true)] ⟨hD.1 rfl,trivial⟩,
  fun ρ u1 hs ho hC hD=>⟨fun _=>av6 hs [] trivial,fun hn=>absurd (hD.1 rfl) hn⟩,
  fun ρ u1 hs ho hC hD=>⟨fun _=>Sx.dc (T:=Rel.is (.sn)) hs [(69,.agg (Sx.L [.i 0,.i 0,.i 0]++Sx.za++Sx.L [.sn,.i 0,.u 0,.i 0,.z,.z,.sn,.i 0,.sn,.i 0,.i 0,.i 0,.i 0,.sn,.i 0,.sn,.i 0,.i 0,.sn,.i 0]).toArray)] ⟨hD.1 rfl,trivial⟩ ((MC (cO.below hg (Ext.trans' L8 hC))).mono fun e w2 h=>⟨_,h.1,h.2,rfl⟩),fun hn=>absurd (hD.2.1 rfl) hn⟩,
  fun ρ u1 hs ho hC hD=>⟨fun _=>av6 hs [(70,.sn)] ⟨hD.1 rfl,trivial⟩,fun hn=>absurd (hD.2.1 rfl) hn⟩,
  fun ρ u1 hs ho hC hD=>⟨fun _=>av6 hs [(71,.i 0)] ⟨hD.1 rfl,trivial⟩,fun hn=>absurd (hD.2.1 rfl) hn⟩,
  fun ρ u1 hs ho hC hD=>av6 hs [(68,.bool true),(72,.bool true)] ⟨hD.1 rfl,hD.2.1 rfl,trivial⟩,
  fun ρ u1 hs ho hC hD=>av6 hs [(73,.bool true)] ⟨hD.1 rfl,trivial⟩,trivial⟩ (fun ac u E30 S=>?_) rfl
 refine apB<|pO _ _<|avS S results11 ?_;exact⟨rfl,S.E⟩
end
section
open Go.RowKit Go.ChangeShapes Go.WideShapes
variable{α:Type}
section
variable{H:Type}{enc:TypeId×Value→H}{W:World}{sp:Nat→Bool}{held:Bool}{n:Nat}{cs:List Value}{y:DataW H×List MemPlace}
set_option maxRecDepth 100000
def bF.ok(W:World)(s:bF):Prop:=I64 s.w∧I64 s.h∧aO 47 aA.cells W s.s s.ns∧∀n∈s.ns,n.ok W
def fD.ok(W:World)(e:fD):Prop:=I64 e.kind∧I64 e.id∧I64 e.index∧I64 e.depth∧e.node.ok W
theorem Y4(h:DataW.trod enc prog W 0 sp held n 26 cs=some y):∃m:bF,cs=m.cells∧m.ok W:=by
 obtain⟨xs,n',rfl,hx,hl,hlen,hg⟩:=axP underlying26 h;have hl:cs.length=7:=hl.trans (by kernel_rfl);obtain⟨x0,c0,w0⟩:=eU underlying3 (kY (cs:=cs) (off:=0) (k:=1) (hg 0 _ rfl) hlen (by decide) (by kernel_rfl)).choose_spec;obtain⟨x1,c1,w1⟩:=eU underlying3 (kY (cs:=cs) (off:=1) (k:=1) (hg 1 _ rfl) hlen (by decide) (by kernel_rfl)).choose_spec;obtain⟨m2,c2⟩:=yA (kY (cs:=cs) (off:=2) (k:=4) (hg 2 _ rfl) hlen (by decide) (by kernel_rfl)).choose_spec;obtain⟨a3,k3,l3,c3,r3,w3⟩:=pJ (k:=47) underlying24 (by decide) (by kernel_rfl) aA.cells (fun n=>n.ok W) (fun n cs y h=>PN h) (kY (cs:=cs) (off:=6) (k:=1) (hg 3 _ rfl) hlen (by decide) (by kernel_rfl)).choose_spec;have hc:=(show cs=(cs.drop 0).take 7 by rw[axq,awP (by omega)]).trans ((aT cs 0 1 1 6 7 rfl rfl).trans (awp _ ((aT cs 1 1 2 5 6 rfl rfl).trans (awp _ (aT cs 2 4 6 1 5 rfl rfl)))));rw[c0,c1,c2,c3]at hc;exact⟨⟨x0,x1,m2,a3,k3,l3⟩,hc.trans (by kernel_rfl),w0,w1,r3,w3⟩
theorem acR(h:DataW.trod enc prog W 0 sp held n 45 cs=some y):∃m:fD,cs=m.cells∧m.ok W:=by
 obtain⟨xs,n',rfl,hx,hl,hlen,hg⟩:=axP underlying45 h;have hl:cs.length=55:=hl.trans (by kernel_rfl);obtain⟨x0,c0,w0⟩:=eU underlying3 (kY (cs:=cs) (off:=0) (k:=1) (hg 0 _ rfl) hlen (by decide) (by kernel_rfl)).choose_spec;obtain⟨x1,c1,w1⟩:=eU underlying3 (kY (cs:=cs) (off:=1) (k:=1) (hg 1 _ rfl) hlen (by decide) (by kernel_rfl)).choose_spec;obtain⟨x2,c2,w2⟩:=eU underlying3 (kY (cs:=cs) (off:=2) (k:=1) (hg 2 _ rfl) hlen (by decide) (by kernel_rfl)).choose_spec;obtain⟨x3,c3,w3⟩:=eU underlying3 (kY (cs:=cs) (off:=3) (k:=1) (hg 3 _ rfl) hlen (by decide) (by kernel_rfl)).choose_spec;obtain⟨m4,c4,w4⟩:=PN (kY (cs:=cs) (off:=4) (k:=47) (hg 4 _ rfl) hlen (by decide) (by kernel_rfl)).choose_spec;obtain⟨m5,c5⟩:=yA (kY (cs:=cs) (off:=51) (k:=4) (hg 5 _ rfl) hlen (by decide) (by kernel_rfl)).choose_spec;have hc:=(show cs=(cs.drop 0).take 55 by rw[axq,awP (by omega)]).trans ((aT cs 0 1 1 54 55 rfl rfl).trans (awp _ ((aT cs 1 1 2 53 54 rfl rfl).trans (awp _ ((aT cs 2 1 3 52 53 rfl rfl).trans (awp _ ((aT cs 3 1 4 51 52 rfl rfl).trans (awp _ (aT cs 4 47 51 4 51 rfl rfl)))))))));rw[c0,c1,c2,c3,c4,c5]at hc;exact⟨⟨x0,x1,x2,x3,m4,m5⟩,hc.trans (by kernel_rfl),w0,w1,w2,w3,w4⟩
theorem TR{base:Nat}{v:Value}{d:DataW H}{p:List MemPlace}(hv:Value.okWide prog W .any base 26 v)(h:DataW.Trod enc prog W 0 sp held 26 v d p):∃m:bF,v=m.v∧m.ok W:=by
 obtain⟨cs,rfl,hsz⟩:=okWide_struct underlying26 hv;obtain⟨fuel,hf⟩:=h;obtain⟨l⟩:=cs;obtain⟨m,hm,ho⟩:=Y4 (cs:=l) (y:=(d,p)) hf;exact⟨m,by rw[hm]; rfl,ho⟩
theorem Yo{base:Nat}{v:Value}{d:DataW H}{p:List MemPlace}(hv:Value.okWide prog W .any base 45 v)(h:DataW.Trod enc prog W 0 sp held 45 v d p):∃m:fD,v=m.v∧m.ok W:=by
 obtain⟨cs,rfl,hsz⟩:=okWide_struct underlying45 hv;obtain⟨fuel,hf⟩:=h;obtain⟨l⟩:=cs;obtain⟨m,hm,ho⟩:=acR (cs:=l) (y:=(d,p)) hf;exact⟨m,by rw[hm]; rfl,ho⟩
end
end
end Go.Proofs.YtapmgonflgahbaaGreatDoor
