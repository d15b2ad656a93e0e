/- The laws' own example: a scene of three nodes. Reference -/
import Derived.Test.YtapmgonflgahbaaGreatDoorPk39
import Derived.Test.YtapmgonflgahbaaGreatDoorOpn36
import Derived.Test.YtapmgonflgahbaaGreatDoorSb5
set_option linter.unusedVariables false
namespace Go.Proofs.YtapmgonflgahbaaGreatDoor
open _root_.Go.Proofs.Tryz
section
open Go.RowKit
variable{α:Type}{K:Nat}
theorem kR{f:FuncId}{args:Array Value}{w:World}{v v':Value}(h:Calls prog f args w fun e w'=>e = .returned v∧Ext w w')(hv:v=v'):Calls prog f args w fun e w'=>e = .returned v'∧Ext w w':=hv▸h
end
section
open Go.RowKit
variable{α:Type}{K:Nat}
theorem Zd{w:World}{a b:aA}(h:eF K w a)(h':eF K w b):Calls prog 63 #[a.v,b.v] w fun e w'=>e = .returned (.bool (a.key=b.key))∧Ext w w':=by
 rw[←YX h.nrm h'.nrm]; exact Fq h h'
set_option maxRecDepth 100000 in
set_option maxHeartbeats 3200000 in
theorem zk{w:World}{s t:bC}(h:gQ K w s)(h':gQ K w t) :
  Calls prog 22 #[s.v,t.v] w fun e w'=>e = .returned (.bool (s.key=t.key))∧Ext w w':=by
 have hmax:s.ns.length≤9223372036854775807:=h.2.2.1.len;refine ahO func22 ntmps22 (fun ac S=>?_);obtain⟨a,cap,es⟩:∃a c,s.s = .slice a s.ns.length c:=⟨_,_,rfl⟩;have hr:=h.2.2.1;rw[es]at hr;obtain⟨d,cap',et⟩:∃a c,t.s = .slice a t.ns.length c:=⟨_,_,rfl⟩;have hr':=h'.2.2.1;rw[et]at hr';refine ahK fun _ aY=>ahL S 2 s.cells fun ac u b2 E3 hb4 S=>ahL S 3 t.cells fun ac u b5 E6 hb7 S=>adr S 1 [] [(4,.z)] fun S=>ahJ<|aY _ _<|ah2 fun _ dR=>ahK fun _ iD=>adr S 28 [.mem 1 0,.mem 0 0,.mem 1 1,.mem 0 1,.mem 1 2,.mem 0 2,.cmp .neq 23 (.tmp 20) (.tmp 22) (.agg #[.u (s.bg.r.toNat:Int),.u (s.bg.g.toNat:Int),.u (s.bg.b.toNat:Int),.u (s.bg.a.toNat:Int)]) (.agg #[.u (t.bg.r.toNat:Int),.u (t.bg.g.toNat:Int),.u (t.bg.b.toNat:Int),.u (t.bg.a.toNat:Int)]) (.bool (!decide (s.bg=t.bg))),.mem 1 6,.re 27 s.s (.slice a s.ns.length cap),.mem 0 6,.re 30 t.s (.slice d t.ns.length cap')] [(33,.bool (((((s.w) != t.w)||((s.h) != t.h))||(!decide (s.bg=t.bg)))||(((s.ns.length:Int)) != (t.ns.length:Int))))] (hk:=⟨(Sx.fQ (fun _=>VO s.bg t.bg _) (by kernel_rfl)),es,et,trivial⟩) fun S=>ahJ (iD _ _ ?_);refine ahN S (fun dG=>?_) (fun dG=>?_)
 ·refine ahK fun _ dO=>adr S 1 [] [(4,.z)] fun S=>ahJ<|dO _ _<|ahM S results22 ?_;exact⟨aH (aaq dG),S.E⟩
 refine ah4<|dR _ _<|ah2 fun _ fD=>ahK fun _ iI=>adr S 1 [] [(5,.i 0)] fun S=>ahJ<|iI _ _<|ah5 ?_;refine aiM (ι:=Nat) (fun p a' w'=>p≤s.ns.length∧((keys s.ns).take p=(keys t.ns).take p)∧Sx.St w a' w' 53 [(0,s.v),(1,t.v),(2,.q b2 0),(3,.q b5 0),(4,.z),(5,.i p)] [(b5,t.cells),(b2,s.cells)] []) (fun p=>s.ns.length-p) (0) ⟨aij _,rfl,S.sn⟩ ?_;rintro k ac u hI;try dsimp only at hI
 obtain⟨hk,hR,S⟩:=hI;refine ah2 fun _ gU=>ahK fun _ iJ=>adr S 5 [.mem 1 6,.re 36 s.s (.slice a s.ns.length cap)] [(38,.bool ((k:Int)<(s.ns.length:Int)))] (hk:=⟨es,trivial⟩) fun S=>ahJ (iJ _ _ ?_);refine ahN S (fun hc16=>?_) (fun hc16=>?_)
 ·refine ah4<|gU _ _<|ah2 fun _ iq=>ah5<|ah2 (fun _ jy=>?_);have vK:k<s.ns.length:=by have:=ain hc16; omega
  obtain⟨b20,o21,rfl,Ig,hx24,PV,TV⟩:=aiy hr (fun _=>rfl) (k) vK;have S:=S.view0 PV TV;have vM:k<t.ns.length:=by have:=Gq dG; have:=ain hc16; omega
  obtain⟨b28,o29,rfl,y34,hx32,TW,TY⟩:=aiy hr' (fun _=>rfl) (k) vM;have S:=S.view0 TW TY;refine ahW S 12 [.mem 1 6,.re 42 s.s (.slice (some ⟨b20,o21,none⟩) s.ns.length cap),.idx k s.ns.length,.mem 3 0,.mem 0 6,.re 47 t.s (.slice (some ⟨b28,o29,none⟩) t.ns.length cap'),.idx k t.ns.length,.mem 2 0] [(_,_,true,.bool (Ig.key=y34.key))] [(52,.bool (!(decide (Ig.key=y34.key))))] ⟨fun u hC g=>Zd ((h.2.2.2 _ (hx24▸aiD vK)).below (Ext.trans' S.E hC)) ((h'.2.2.2 _ (hx32▸aiD vM)).below (Ext.trans' S.E hC)),trivial⟩ (hk:=⟨es,vK,et,vM,trivial⟩) fun ac u Dz S=>ahJ (jy _ _ ?_);refine ahN S (fun qJ=>?_) (fun qJ=>?_)
  ·refine ahK fun _ mD=>adr S 1 [] [(4,.z)] fun S=>ahJ<|mD _ _<|ahM S results22 ?_;exact⟨aH (OI dG (aap vK vM hx24 hx32 qJ)),S.E⟩
  refine ah4<|iq _ _<|aia<|adr S 3 [.re 40 (.i (IntKind.i64.wrap ((k:Int)+1))) (.i (k+1:Nat))] [(5,.i (k+1:Nat))] (hk:=⟨ahY (by omega),trivial⟩) fun S=>ahJ ?_;show ∃i',_∧_;exact⟨(k+1),⟨by omega,(OH vK vM hR hx24 hx32 qJ),S.sn⟩,by show _-_<_-_; omega⟩
 refine ail<|fD _ _<|ahK fun _ lq=>adr S 1 [] [(4,.bool true)] fun S=>ahJ<|lq _ _<|ahM S results22 ?_;exact⟨aH (OI dG (VP (by have:=aiu hc16; omega) (Gq dG) hR)),S.E⟩
end
section
open Go.RowKit
variable{α:Type}{K:Nat}
set_option maxRecDepth 100000 in
set_option maxHeartbeats 3200000 in
theorem lV{w:World}(hg:bW w) :
  Calls prog 11 #[] w fun e w'=>e = .returned (.bool true)∧Ext w w':=by
 skip;refine ahO func11 ntmps11 fun ac S=>ahK fun _ aY=>adr S 1 [] [(0,.z)] fun S=>ahJ<|aY _ _<|ahK fun _ fA=>ah6 S 10 10 [.u 71,.u 83,.u 49,.u 8,.u 8,.u 255,.u 255,.u 255,.u 255,.u 0] fun ac u b3 E4 hb5 S=>ahQ S (some 11) (Rz _ m0 _ (gY (Sx.iW (f:=dQ) m0 (S.bx 0) (by decide))) (by decide)) ?_;rintro e u ⟨v1,rfl,ho1,E6⟩;refine⟨_,rfl,E6,fun ac S=>?_⟩;refine adr S 1 [] [(1,v1)] fun S=>ahJ<|fA _ _<|ahK fun _ iL=>ahS S 13 (CB) fun ac u E8 S=>ahQ S (some 14) ((by have hc:=uY (K:=20) (OW _) (bW.below hg S.E) rfl JL; rw[JM]at hc; exact hc)) ?_;rintro e u ⟨v2,rfl,ho2,E9⟩;refine⟨_,rfl,E9,fun ac S=>?_⟩;refine adr S 5 [] [(2,v2),(3,.i 0)] fun S=>ahJ<|iL _ _<|ahK fun _ gu=>adr S 1 [] [(18,v1)] fun S=>ahS S 19 (DW (bW.below hg S.E) (rowB ((Sx.bM ho1 (Ext.trans' E8 E9))))) fun ac u wL S=>adr S 3 [] [(20,.agg #[.i 4,.i 4,.u 255,.u 255,.u 255,.u 255,.sn]),(21,.i 0)] fun S=>ahL S 4 [.i 0,.i 0,.u 0,.u 0,.u 0,.u 0,.sn] fun ac u b12 Nz aaN S=>ahP S 0 (off:=0) (cs:=[.i 4,.i 4,.u 255,.u 255,.u 255,.u 255,.sn]) rfl (fun u C15 S=>?_);have XF:=ahR (Ext.trans' E8 (Ext.trans' E9 (Ext.trans' wL Nz))) C15 (by have:=(Ext.trans' E8 (Ext.trans' E9 wL)).size; omega);have yu:=ahR (Ext.trans' wL Nz) C15 (by have:=wL.size; omega);refine adr S 1 [] [(5,.i 0)] fun S=>ahJ<|gu _ _<|ahK fun _ jy=>adr S 1 [] [(23,.agg (Sx.L [.i 2,.i 3,.i 0,.i 0,.i 0,.i 0,.i 0]++Sx.za++Sx.L [.sn,.i 0,.u 0,.i 0,.z,.z,.sn,.i 0,.sn,.i 0,.i 0,.i 0,.i 0,.sn,.i 0,.sn,.i 0,.i 0,.sn,.i 0,.u 0,.u 0,.u 0,.u 0]).toArray)] fun S=>ahQ S (some 24) (rU) ?_;rintro e u ⟨v6,rfl,ho6,Dz⟩;refine⟨_,rfl,Dz,fun ac S=>?_⟩;refine adr S 5 [] [(6,v6),(7,.i 0)] fun S=>ahJ<|jy _ _<|ahK fun _ kP=>adr S 1 [] [(28,v6)] fun S=>ahS S 29 (GH (rowB (ho6))) fun ac u sF S=>adr S 3 [] [(30,.agg (Sx.L [.i 2,.i 3,.i 0,.i 0,.i 0,.i 0,.i 0]++Sx.za++Sx.L [.sn,.i 0,.u 0,.i 0,.z,.z,.sn,.i 0,.sn,.i 0,.i 0,.i 0,.i 0,.sn,.i 0,.sn,.i 0,.i 0,.sn,.i 0,.u 0,.u 0,.u 0,.u 0]).toArray),(31,.i 0)] fun S=>ahL S 8 (Sx.L [.i 0,.i 0,.i 0,.i 0,.i 0,.i 0,.i 0]++Sx.za++Sx.L [.sn,.i 0,.u 0,.i 0,.z,.z,.sn,.i 0,.sn,.i 0,.i 0,.i 0,.i 0,.sn,.i 0,.sn,.i 0,.i 0,.sn,.i 0,.u 0,.u 0,.u 0,.u 0]) fun ac u b22 PK Yt S=>ahP S 0 (off:=0) (cs:=(Sx.L [.i 2,.i 3,.i 0,.i 0,.i 0,.i 0,.i 0]++Sx.za++Sx.L [.sn,.i 0,.u 0,.i 0,.z,.z,.sn,.i 0,.sn,.i 0,.i 0,.i 0,.i 0,.sn,.i 0,.sn,.i 0,.i 0,.sn,.i 0,.u 0,.u 0,.u 0,.u 0])) rfl (fun u Uz S=>?_);have E26:=ahR (Ext.trans' XF (Ext.trans' Dz (Ext.trans' sF PK))) Uz (by have:=(Ext.trans' XF (Ext.trans' Dz sF)).size; omega);have E27:=ahR (Ext.trans' yu (Ext.trans' Dz (Ext.trans' sF PK))) Uz (by have:=(Ext.trans' yu (Ext.trans' Dz sF)).size; omega);have E28:=ahR (Ext.trans' sF PK) Uz (by have:=sF.size; omega);refine adr S 1 [] [(9,.i 0)] fun S=>ahJ<|kP _ _<|ah2 (fun _ uJ=>?_);have uo:=S.E;refine Sx.UM S 43 (Rel.is (.i 0)::Rel.is (.bool true)::Rel.is (.bool true)::Rel.is (v2)::Rel.is (.string ⟨(dL.app m0).toArray⟩)::Rel.is (v1)::Rel.is (.string ⟨(dL.app m0).toArray⟩)::Rel.is (.bool true)::Rel.is (.bool true)::Rel.is (.bool true)::Rel.is (.i 0)::Rel.is (.bool true)::Rel.is (.bool true)::Rel.is (.bool true)::Rel.is (.agg #[.i 4,.i 4,.u 255,.u 255,.u 255,.u 255,.sn])::Rel.is (.agg #[.i 4,.i 4,.u 255,.u 255,.u 255,.u 255,.sn])::Rel.is (.bool true)::Rel.is (.bool true)::Rel.is (.bool true)::Rel.is (.i 0)::Rel.is (.bool true)::Rel.is (.bool true)::Rel.is (.bool true)::Rel.is (.i 0)::Rel.is (.bool true)::Rel.is (.bool true)::Rel.is (.bool true)::Rel.is (.q b22 0)::Rel.is (.i 2)::Rel.is (.bool true)::Rel.is (.bool true)::Rel.is (.bool true)::Rel.is (.q b22 1)::Rel.is (.i 3)::Rel.is (.bool true)::Rel.is (.bool true)::Rel.is (.bool true)::Rel.is (.agg (Sx.L [.i 0,.i 0,.i 0]++Sx.za++Sx.L [.sn,.i 0,.u 0,.i 0,.z,.z,.sn,.i 0,.sn,.i 0,.i 0,.i 0,.i 0,.sn,.i 0,.sn,.i 0,.i 0,.sn,.i 0]).toArray)::Rel.is (.sn)::Rel.is (.i 0)::Rel.is (.bool true)::Rel.is (.bool true)::Rel.is (.bool true)::[]) 42 0 (.bool true) ⟨Rel.aG _,Rel.aG _,Rel.aG _,Rel.aG _,Rel.aG _,Rel.aG _,Rel.aG _,Rel.aG _,Rel.aG _,Rel.aG _,Rel.aG _,Rel.aG _,Rel.aG _,Rel.aG _,Rel.aG _,Rel.aG _,Rel.aG _,Rel.aG _,Rel.aG _,Rel.aG _,Rel.aG _,Rel.aG _,Rel.aG _,Rel.aG _,Rel.aG _,Rel.aG _,Rel.aG _,Rel.aG _,Rel.aG _,Rel.aG _,Rel.aG _,Rel.aG _,Rel.aG _,Rel.aG _,Rel.aG _,Rel.aG _,Rel.aG _,Rel.aG _,Rel.aG _,Rel.aG _,Rel.aG _,Rel.aG _,Rel.aG _,trivial⟩ ⟨fun ρ u1 hs ho hC hD=>ahT hs [(3,.i 0)] ⟨(ho 3 rfl).trans (S.s.ev rfl),trivial⟩,
  fun ρ u1 hs ho hC hD=>ahT hs [(32,.i 0)] ⟨hD.1 rfl,trivial⟩,
  fun ρ u1 hs ho hC hD=>ahT hs [(33,.bool true)] ⟨hD.1 rfl,trivial⟩,
  fun ρ u1 hs ho hC hD=>⟨fun _=>ahT hs [(2,v2)] ⟨(ho 2 rfl).trans (S.s.ev rfl),trivial⟩,fun hn=>absurd (hD.1 rfl) hn⟩,
  fun ρ u1 hs ho hC hD=>⟨fun _=>Sx.Qx (x:=35) (hD.1 rfl) (pX ((Sx.bM ho2 (Ext.trans' E27 hC)))),fun hn=>absurd (hD.2.1 rfl) hn⟩,
  fun ρ u1 hs ho hC hD=>⟨fun _=>ahT hs [(1,v1)] ⟨(ho 1 rfl).trans (S.s.ev rfl),trivial⟩,fun hn=>absurd (hD.1 rfl) hn⟩,
  fun ρ u1 hs ho hC hD=>⟨fun _=>Sx.Qx (x:=37) (hD.1 rfl) (pX ((Sx.bM ho1 (Ext.trans' E26 hC)))),fun hn=>absurd (hD.2.1 rfl) hn⟩,
  fun ρ u1 hs ho hC hD=>⟨fun _=>Sx.abo (hD.1 rfl) (hD.2.1 rfl) (by simp),fun hn=>absurd (hD.2.2.1 rfl) hn⟩,
  fun ρ u1 hs ho hC hD=>ahT hs [(34,.bool true),(39,.bool true)] ⟨hD.1 rfl,hD.2.1 rfl,trivial⟩,
  fun ρ u1 hs ho hC hD=>ahT hs [(40,.bool true)] ⟨hD.1 rfl,trivial⟩,
  fun ρ u1 hs ho hC hD=>⟨fun _=>ahT hs [(5,.i 0)] ⟨(ho 5 rfl).trans (S.s.ev rfl),trivial⟩,fun hn=>absurd (hD.1 rfl) hn⟩,
  fun ρ u1 hs ho hC hD=>⟨fun _=>ahT hs [(42,.i 0)] ⟨hD.1 rfl,trivial⟩,fun hn=>absurd (hD.2.1 rfl) hn⟩,
  fun ρ u1 hs ho hC hD=>ahT hs [(41,.bool true),(43,.bool true)] ⟨hD.1 rfl,hD.2.1 rfl,trivial⟩,
  fun ρ u1 hs ho hC hD=>ahT hs [(44,.bool true)] ⟨hD.1 rfl,trivial⟩,
  fun ρ u1 hs ho hC hD=>⟨fun _=>Sx.Qw ((ho 4 rfl).trans (S.s.ev rfl)) (((S.bx 1).ext hC).range 0 7 rfl),fun hn=>absurd (hD.1 rfl) hn⟩,
  fun ρ u1 hs ho hC hD=>⟨fun _=>Sx.dc (T:=Rel.is (.agg #[.i 4,.i 4,.u 255,.u 255,.u 255,.u 255,.sn])) hs [] trivial ((CB).mono fun e w2 h=>⟨_,h.1,h.2,rfl⟩),fun hn=>absurd (hD.1 rfl) hn⟩,
  fun ρ u1 hs ho hC hD=>⟨fun _=>Sx.dc (T:=Rel.is (.bool true)) hs [(46,.agg #[.i 4,.i 4,.u 255,.u 255,.u 255,.u 255,.sn]),(47,.agg #[.i 4,.i 4,.u 255,.u 255,.u 255,.u 255,.sn])] ⟨hD.1 rfl,hD.2.1 rfl,trivial⟩ ((kR (zk (K:=20) (OW u1) (OW u1)) (aic Value.bool (ajd rfl))).mono fun e w2 h=>⟨_,h.1,h.2,rfl⟩),fun hn=>absurd (hD.2.2.2.1 rfl) hn⟩,
  fun ρ u1 hs ho hC hD=>ahT hs [(45,.bool true),(48,.bool true)] ⟨hD.1 rfl,hD.2.1 rfl,trivial⟩,
  fun ρ u1 hs ho hC hD=>ahT hs [(49,.bool true)] ⟨hD.1 rfl,trivial⟩,
  fun ρ u1 hs ho hC hD=>⟨fun _=>ahT hs [(7,.i 0)] ⟨(ho 7 rfl).trans (S.s.ev rfl),trivial⟩,fun hn=>absurd (hD.1 rfl) hn⟩,
  fun ρ u1 hs ho hC hD=>⟨fun _=>ahT hs [(51,.i 0)] ⟨hD.1 rfl,trivial⟩,fun hn=>absurd (hD.2.1 rfl) hn⟩,
  fun ρ u1 hs ho hC hD=>ahT hs [(50,.bool true),(52,.bool true)] ⟨hD.1 rfl,hD.2.1 rfl,trivial⟩,
  fun ρ u1 hs ho hC hD=>ahT hs [(53,.bool true)] ⟨hD.1 rfl,trivial⟩,
  fun ρ u1 hs ho hC hD=>⟨fun _=>ahT hs [(9,.i 0)] ⟨(ho 9 rfl).trans (S.s.ev rfl),trivial⟩,fun hn=>absurd (hD.1 rfl) hn⟩,
  fun ρ u1 hs ho hC hD=>⟨fun _=>ahT hs [(55,.i 0)] ⟨hD.1 rfl,trivial⟩,fun hn=>absurd (hD.2.1 rfl) hn⟩,
  fun ρ u1 hs ho hC hD=>ahT hs [(54,.bool true),(56,.bool true)] ⟨hD.1 rfl,hD.2.1 rfl,trivial⟩,
  fun ρ u1 hs ho hC hD=>ahT hs [(57,.bool true)] ⟨hD.1 rfl,trivial⟩,
  fun ρ u1 hs ho hC hD=>⟨fun _=>ahT hs [(8,.q b22 0)] ⟨(ho 8 rfl).trans (S.s.ev rfl),trivial⟩,fun hn=>absurd (hD.1 rfl) hn⟩,
  fun ρ u1 hs ho hC hD=>⟨fun _=>Sx.Qw (hD.1 rfl) (((S.bx 0).ext hC).range 0 1 rfl),fun hn=>absurd (hD.2.1 rfl) hn⟩,
  fun ρ u1 hs ho hC hD=>⟨fun _=>ahT hs [(60,.i 2)] ⟨hD.1 rfl,trivial⟩,fun hn=>absurd (hD.2.1 rfl) hn⟩,
  fun ρ u1 hs ho hC hD=>ahT hs [(58,.bool true),(61,.bool true)] ⟨hD.1 rfl,hD.2.1 rfl,trivial⟩,
  fun ρ u1 hs ho hC hD=>ahT hs [(62,.bool true)] ⟨hD.1 rfl,trivial⟩,
  fun ρ u1 hs ho hC hD=>⟨fun _=>ahT hs [(8,.q b22 0)] ⟨(ho 8 rfl).trans (S.s.ev rfl),trivial⟩,fun hn=>absurd (hD.1 rfl) hn⟩,
  fun ρ u1 hs ho hC hD=>⟨fun _=>Sx.Qw (hD.1 rfl) (((S.bx 0).ext hC).range 1 1 rfl),fun hn=>absurd (hD.2.1 rfl) hn⟩,
  fun ρ u1 hs ho hC hD=>⟨fun _=>ahT hs [(65,.i 3)] ⟨hD.1 rfl,trivial⟩,fun hn=>absurd (hD.2.1 rfl) hn⟩,
  fun ρ u1 hs ho hC hD=>ahT hs [(63,.bool true),(66,.bool true)] ⟨hD.1 rfl,hD.2.1 rfl,trivial⟩,
  fun ρ u1 hs ho hC hD=>ahT hs [(67,.bool true)] ⟨hD.1 rfl,trivial⟩,
  fun ρ u1 hs ho hC hD=>⟨fun _=>ahT hs [] trivial,fun hn=>absurd (hD.1 rfl) hn⟩,
  fun ρ u1 hs ho hC hD=>⟨fun _=>Sx.dc (T:=Rel.is (.sn)) hs [(69,.agg (Sx.L [.i 0,.i 0,.i 0]++Sx.za++Sx.L [.sn,.i 0,.u 0,.i 0,.z,.z,.sn,.i 0,.sn,.i 0,.i 0,.i 0,.i 0,.sn,.i 0,.sn,.i 0,.i 0,.sn,.i 0]).toArray)] ⟨hD.1 rfl,trivial⟩ ((GI (bW.below hg (Ext.trans' uo hC))).mono fun e w2 h=>⟨_,h.1,h.2,rfl⟩),fun hn=>absurd (hD.2.1 rfl) hn⟩,
  fun ρ u1 hs ho hC hD=>⟨fun _=>ahT hs [(70,.sn)] ⟨hD.1 rfl,trivial⟩,fun hn=>absurd (hD.2.1 rfl) hn⟩,
  fun ρ u1 hs ho hC hD=>⟨fun _=>ahT hs [(71,.i 0)] ⟨hD.1 rfl,trivial⟩,fun hn=>absurd (hD.2.1 rfl) hn⟩,
  fun ρ u1 hs ho hC hD=>ahT hs [(68,.bool true),(72,.bool true)] ⟨hD.1 rfl,hD.2.1 rfl,trivial⟩,
  fun ρ u1 hs ho hC hD=>ahT hs [(73,.bool true)] ⟨hD.1 rfl,trivial⟩,trivial⟩ (fun ac u E30 S=>?_) rfl
 refine ahJ<|uJ _ _<|ahM S results11 ?_;exact⟨rfl,S.E⟩
end
end Go.Proofs.YtapmgonflgahbaaGreatDoor
