/- The references that the law NodeCheck calls: the simple tests. -/
import Derived.Test.YtfmkkemfhjkajaaGreatDoorCheck
set_option maxHeartbeats 1600000
set_option maxRecDepth 100000
namespace Go.Proofs.YtfmkkemfhjkajaaGreatDoor
open Go.RowKit
variable{α:Type}{K:Nat}
set_option linter.unusedVariables false
def mg(a b:Int):Bool:=(side a&&side b)&&decide (a*b≤65536)
theorem WI{x lo hi:Int}(h:(!(decide (lo≤x)&&decide (x≤hi)))=true):((decide (x<lo))||(decide (hi<x)))=true:=by
 simp only[Bool.not_eq_true',Bool.and_eq_false_iff,decide_eq_false_iff_not]at h
 simp only[Bool.or_eq_true,decide_eq_true_eq]; omega
theorem RY{x lo hi:Int}(h:(!(decide (lo≤x)&&decide (x≤hi)))=false):((decide (x<lo))||(decide (hi<x)))=false:=by
 simp only[Bool.not_eq_false',Bool.and_eq_true,decide_eq_true_eq]at h
 simp only[Bool.or_eq_false_iff,decide_eq_false_iff_not]; omega
theorem RZ{l:List Int}{k:Nat}{any:Bool}(hk:l.length≤k)(hR:nX l (l.take k)=some any):((any&&(decide (((l.length:Nat):Int)≤16)))&&((Int.tmod ((l.length:Nat):Int) 2)==0))=l7 l:=by
 rw[←MZ hk hR,Bool.and_assoc,Bool.and_assoc,Bool.and_comm (decide _)]
theorem Zz{a b:Int}:(((((decide (1≤a))&&(decide (a≤4096)))&&(decide (1≤b)))&&(decide (b≤4096)))&&(decide (IntKind.i64.wrap (a*b)≤65536)))=mg a b:=by
 unfold mg
 cases ha:side a
 ·have:((decide (1≤a))&&(decide (a≤4096)))=false:=ha
  rw[this]; rfl
 ·cases hb:side b
  ·have:((decide (1≤b))&&(decide (b≤4096)))=false:=hb
   rw[Bool.and_assoc ((decide (1≤a))&&(decide (a≤4096))),this]; simp
  ·rw[BH ha hb]
   have h1:((decide (1≤a))&&(decide (a≤4096)))=true:=ha
   have h2:((decide (1≤b))&&(decide (b≤4096)))=true:=hb
   rw[Bool.and_assoc ((decide (1≤a))&&(decide (a≤4096))),h1,h2]
theorem OT{a b:Int}(h:mg a b=true):IntKind.i64.wrap (a*b)=a*b:=by
 unfold mg at h
 simp only[Bool.and_eq_true]at h
 exact BH h.1.1 h.1.2
theorem GK{m:bU}:((!(mg m.w m.h))||(((m.l.length:Nat):Int) != IntKind.i64.wrap (m.w*m.h)))=((!(mg m.w m.h))||(((m.l.length:Nat):Int) != (m.w*m.h))):=by
 cases h:mg m.w m.h
 ·rfl
 ·rw[OT h]
theorem Jq(m:bU):mg m.w m.h=m.size:=by unfold mg bU.size; rw[Bool.and_assoc]
theorem ZA{m:bU}(h:((!(mg m.w m.h))||(((m.l.length:Nat):Int) != (m.w*m.h)))=true):false=m.valid:=by
 unfold bU.valid
 rw[←Jq]
 revert h
 cases mg m.w m.h<;>simp
 intro h h1; omega
theorem WJ{m:bU}(h:((!(mg m.w m.h))||(((m.l.length:Nat):Int) != (m.w*m.h)))=false)(ha:m.l.all dI.valid=true):true=m.valid:=by
 unfold bU.valid
 rw[←Jq]
 revert h
 cases mg m.w m.h<;>simp
 intro h; exact⟨h,by simpa using ha⟩
theorem WL{m:bU}(ha:m.l.all dI.valid=false):false=m.valid:=by
 unfold bU.valid
 rw[ha]; simp
theorem Dc(n:Int)(w:World) :
  Calls Tryz.prog 171 #[.int .i64 n] w fun e w'=>e = .returned (.bool (((n)==1)||((n)==2)))∧w=w':=by
 skip
 refine aiK Tryz.func171 Tryz.ntmps171 fun ac S=>aiG fun _ aU=>adr S 1 [] [(2,.bool false)] fun ac S=>aiF<|aU _ _<|aiG fun _ fE=>adr S 7 [] [(2,.bool (((n)==1)||((n)==2)))] fun ac S=>aiF<|fE _ _<|Vp.rt ?_
 refine aiH S Tryz.results171 ?_
 exact⟨rfl,rfl⟩
def aj.oZ(nd:aj):Bool:=((((((nd.path.length:Nat):Int))==0)&&((nd.aY)==0))&&((((nd.fill.length:Nat):Int))==0))&&((((nd.stroke.length:Nat):Int))==0)
theorem xA{w:World}{nd:aj}(h:nd.ok w) :
  Calls Tryz.prog 172 #[nd.v] w fun e w'=>e = .returned (.bool (nd.oZ))∧Ext w w':=by
 skip
 refine aiK Tryz.func172 Tryz.ntmps172 fun ac S=>aiG fun _ aU=>aiJ S 1 nd.cells fun ac u b2 E3 hb4 S=>adr S 1 [] [(2,.bool false)] fun ac S=>aiF<|aU _ _<|aiG fun _ bV=>adr S 22 [.mem 0 33,.mem 0 34,.mem 0 35,.mem 0 42] [(2,.bool (((((((nd.path.length:Nat):Int))==0)&&((nd.aY)==0))&&((((nd.fill.length:Nat):Int))==0))&&((((nd.stroke.length:Nat):Int))==0)))] fun ac S=>aiF<|bV _ _<|Vp.rt ?_
 refine aiH S Tryz.results172 ?_
 exact⟨rfl,S.E⟩
def aj.lC(nd:aj):Bool:=((((((nd.style.width)==0)&&((nd.style.join)==0))&&((nd.style.cap)==0))&&((nd.style.dU)==0))&&((((nd.style.dash.length:Nat):Int))==0))&&((nd.style.phase)==0)
theorem rO{w:World}{nd:aj}(h:nd.ok w) :
  Calls Tryz.prog 173 #[nd.v] w fun e w'=>e = .returned (.bool (nd.lC))∧Ext w w':=by
 skip
 refine aiK Tryz.func173 Tryz.ntmps173 fun ac S=>aiG fun _ aU=>aiJ S 1 nd.cells fun ac u b2 E3 hb4 S=>adr S 1 [] [(2,.bool false)] fun ac S=>aiF<|aU _ _<|aiG fun _ bV=>adr S 2 [.mem 0 36] [(5,nd.style.v)] fun ac S=>aiJ S 3 [.int .i64 0,.int .i64 0,.int .i64 0,.int .i64 0,.slice none 0 0,.int .i64 0] fun ac u b6 E7 hb8 S=>aiL S 0 (off:=0) (cs:=nd.style.cells) rfl fun u C9 S=>aiF<|bV _ _<|aiG fun _ dV=>adr S 30 [.mem 0 0,.mem 0 1,.mem 0 2,.mem 0 3,.mem 0 4,.mem 0 5] [(2,.bool (((((((nd.style.width)==0)&&((nd.style.join)==0))&&((nd.style.cap)==0))&&((nd.style.dU)==0))&&((((nd.style.dash.length:Nat):Int))==0))&&((nd.style.phase)==0)))] fun ac S=>aiF<|dV _ _<|Vp.rt ?_
 refine aiH S Tryz.results173 ?_
 exact⟨rfl,S.E⟩
def aj.qG(nd:aj):Bool:=((((nd.img.w)==0)&&((nd.img.h)==0))&&((((nd.img.l.length:Nat):Int))==0))&&((nd.cZ)==0)
theorem xB{w:World}{nd:aj}(h:nd.ok w) :
  Calls Tryz.prog 174 #[nd.v] w fun e w'=>e = .returned (.bool (nd.qG))∧Ext w w':=by
 skip
 refine aiK Tryz.func174 Tryz.ntmps174 fun ac S=>aiG fun _ aU=>aiJ S 1 nd.cells fun ac u b2 E3 hb4 S=>adr S 1 [] [(2,.bool false)] fun ac S=>aiF<|aU _ _<|aiG fun _ bV=>adr S 23 [.mem 0 43,.mem 0 44,.mem 0 45,.mem 0 46] [(2,.bool (((((nd.img.w)==0)&&((nd.img.h)==0))&&((((nd.img.l.length:Nat):Int))==0))&&((nd.cZ)==0)))] fun ac S=>aiF<|bV _ _<|Vp.rt ?_
 refine aiH S Tryz.results174 ?_
 exact⟨rfl,S.E⟩
def aj.qH(nd:aj):Bool:=(((((nd.eY.toNat:Int))==0)&&((nd.blend)==0))&&(!nd.isolated))&&(!nd.dN)
theorem xC{w:World}{nd:aj}(h:nd.ok w) :
  Calls Tryz.prog 175 #[nd.v] w fun e w'=>e = .returned (.bool (nd.qH))∧Ext w w':=by
 skip
 refine aiK Tryz.func175 Tryz.ntmps175 fun ac S=>aiG fun _ aU=>aiJ S 1 nd.cells fun ac u b2 E3 hb4 S=>adr S 1 [] [(2,.bool false)] fun ac S=>aiF<|aU _ _<|aiG fun _ bV=>adr S 19 [.mem 0 29,.mem 0 30,.mem 0 31,.mem 0 32] [(2,.bool ((((((nd.eY.toNat:Int))==0)&&((nd.blend)==0))&&(!nd.isolated))&&(!nd.dN)))] fun ac S=>aiF<|bV _ _<|Vp.rt ?_
 refine aiH S Tryz.results175 ?_
 exact⟨rfl,S.E⟩
def aj.qF(nd:aj):Bool:=cond ((((((nd.clip.length:Nat):Int))==0)&&((nd.aO) != 0))||((decide (0<((nd.clip.length:Nat):Int)))&&(!((nd.aO==1)||(nd.aO==2))))) (false) (cond ((nd.kind)==1) ((nd.oZ&&nd.lC)&&nd.qG) (cond ((nd.kind)==2) (nd.qH&&nd.qG) ((nd.qH&&nd.oZ)&&nd.lC)))
theorem Rk{w:World}{nd:aj}(h:nd.ok w) :
  Calls Tryz.prog 131 #[nd.v] w fun e w'=>e = .returned (.bool nd.qF)∧Ext w w':=by
 skip
 refine aiK Tryz.func131 Tryz.ntmps131 fun ac S=>aiG fun _ aU=>aiJ S 1 nd.cells fun ac u b2 E3 hb4 S=>adr S 1 [] [(2,.bool false)] fun ac S=>aiF<|aU _ _<|wp_seq_k fun _ bV=>aiG fun _ iK=>aiT S 21 [.mem 0 27,.mem 0 28,.mem 0 27,.mem 0 28] [(_,_,((!(((((nd.clip.length:Nat):Int))==0)&&((nd.aO) != 0)))&&(decide (0<((nd.clip.length:Nat):Int)))),.bool ((nd.aO==1)||(nd.aO==2)))] [(23,.bool ((((((nd.clip.length:Nat):Int))==0)&&((nd.aO) != 0))||((decide (0<((nd.clip.length:Nat):Int)))&&(!((nd.aO==1)||(nd.aO==2))))))] ⟨fun u hC g=>aiU (Dc nd.aO _),trivial⟩ fun ac u E7 S=>aiF (iK _ _ ?_)
 refine aiI S (fun hc8=>?_) (fun hc8=>?_)
 ·refine aiG fun _ gB=>adr S 1 [] [(2,.bool false)] fun ac S=>aiF<|gB _ _<|Vp.rt ?_
  have p0:=hc8
  refine aiH S Tryz.results131 ?_
  exact⟨aB (by unfold aj.qF; simp only[p0,cond_true]),S.E⟩
 ·refine wp_skip<|bV _ _<|wp_seq_k fun _ dV=>aiG fun _ dB=>adr S 2 [.mem 0 1] [(25,.int .i64 nd.kind)] fun ac S=>aiF<|dB _ _<|wp_block<|aiG fun _ dw=>adr S 2 [] [(26,.bool ((nd.kind)==1))] fun ac S=>aiF (dw _ _ ?_)
  refine aiI S (fun hc13=>?_) (fun hc13=>?_)
  ·refine aiG fun _ fU=>adr S 1 [.mem 0 0] [(28,nd.v)] fun ac S=>aiM S 29 (xA (h.below S.E)) fun ac u Vb S=>aiT S 9 [.mem 0 0,.mem 0 0] [(_,_,nd.oZ,.bool nd.lC),(_,_,(nd.oZ&&nd.lC),.bool nd.qG)] [(2,.bool ((nd.oZ&&nd.lC)&&nd.qG))] ⟨fun u hC g=>rO (h.below (Ext.trans' S.E hC)),fun u hC g=>xB (h.below (Ext.trans' S.E hC)),trivial⟩ fun ac u Pz S=>aiF<|fU _ _<|Vp.rt ?_
   have p0:=hc8
   have p1:=hc13
   refine aiH S Tryz.results131 ?_
   exact⟨aB (by unfold aj.qF; simp only[p0,p1,cond_true,cond_false]),S.E⟩
  ·refine aiG fun _ ig=>adr S 2 [] [(38,.bool ((nd.kind)==2))] fun ac S=>aiF (ig _ _ ?_)
   refine aiI S (fun hc18=>?_) (fun hc18=>?_)
   ·refine aiG fun _ jf=>adr S 1 [.mem 0 0] [(40,nd.v)] fun ac S=>aiM S 41 (xC (h.below S.E)) fun ac u Iz S=>aiT S 5 [.mem 0 0] [(_,_,nd.qH,.bool nd.qG)] [(2,.bool (nd.qH&&nd.qG))] ⟨fun u hC g=>xB (h.below (Ext.trans' S.E hC)),trivial⟩ fun ac u LD S=>aiF<|jf _ _<|Vp.rt ?_
    have p0:=hc8
    have p1:=hc13
    have p2:=hc18
    refine aiH S Tryz.results131 ?_
    exact⟨aB (by unfold aj.qF; simp only[p0,p1,p2,cond_true,cond_false]),S.E⟩
   ·refine wp_skip<|dV _ _<|aiG fun _ jM=>adr S 1 [.mem 0 0] [(46,nd.v)] fun ac S=>aiM S 47 (xC (h.below S.E)) fun ac u JA S=>aiT S 9 [.mem 0 0,.mem 0 0] [(_,_,nd.qH,.bool nd.oZ),(_,_,(nd.qH&&nd.oZ),.bool nd.lC)] [(2,.bool ((nd.qH&&nd.oZ)&&nd.lC))] ⟨fun u hC g=>xA (h.below (Ext.trans' S.E hC)),fun u hC g=>rO (h.below (Ext.trans' S.E hC)),trivial⟩ fun ac u Xn S=>aiF<|jM _ _<|Vp.rt ?_
    have p0:=hc8
    have p1:=hc13
    have p2:=hc18
    refine aiH S Tryz.results131 ?_
    exact⟨aB (by unfold aj.qF; simp only[p0,p1,p2,cond_false]),S.E⟩
theorem Om(n:Int)(w:World) :
  Calls Tryz.prog 133 #[.int .i64 n] w fun e w'=>e = .returned (.bool ((decide (1≤n))&&(decide (n≤13))))∧w=w':=by
 skip
 refine aiK Tryz.func133 Tryz.ntmps133 fun ac S=>aiG fun _ aU=>adr S 1 [] [(2,.bool false)] fun ac S=>aiF<|aU _ _<|aiG fun _ fE=>adr S 7 [] [(2,.bool ((decide (1≤n))&&(decide (n≤13))))] fun ac S=>aiF<|fE _ _<|Vp.rt ?_
 refine aiH S Tryz.results133 ?_
 exact⟨rfl,rfl⟩
def dI.abn(p:dI):Bool:=((decide ((p.r.toNat:Int)≤(p.a.toNat:Int)))&&(decide ((p.g.toNat:Int)≤(p.a.toNat:Int))))&&(decide ((p.b.toNat:Int)≤(p.a.toNat:Int)))
theorem KQ(p:dI)(w:World) :
  Calls Tryz.prog 179 #[.agg #[.int .u8 (p.r.toNat:Int),.int .u8 (p.g.toNat:Int),.int .u8 (p.b.toNat:Int),.int .u8 (p.a.toNat:Int)]] w fun e w'=>e = .returned (.bool (p.abn))∧Ext w w':=by
 skip
 refine aiK Tryz.func179 Tryz.ntmps179 fun ac S=>aiG fun _ aU=>aiJ S 1 p.cells fun ac u b2 E3 hb4 S=>adr S 1 [] [(2,.bool false)] fun ac S=>aiF<|aU _ _<|aiG fun _ bV=>adr S 20 [.mem 0 0,.mem 0 3,.mem 0 1,.mem 0 3,.mem 0 2,.mem 0 3] [(2,.bool (((decide ((p.r.toNat:Int)≤(p.a.toNat:Int)))&&(decide ((p.g.toNat:Int)≤(p.a.toNat:Int))))&&(decide ((p.b.toNat:Int)≤(p.a.toNat:Int)))))] fun ac S=>aiF<|bV _ _<|Vp.rt ?_
 refine aiH S Tryz.results179 ?_
 exact⟨rfl,S.E⟩
theorem GL(p:dI):p.abn=p.valid:=by
 unfold dI.abn dI.valid
 simp only[UInt8.le_iff_toNat_le,Int.ofNat_le,Bool.and_assoc]
theorem OU(a b:Int)(w:World) :
  Calls Tryz.prog 178 #[.int .i64 a,.int .i64 b] w fun e w'=>e = .returned (.bool (mg a b))∧w=w':=by
 skip
 refine aiK Tryz.func178 Tryz.ntmps178 fun ac S=>aiG fun _ aU=>adr S 1 [] [(4,.bool false)] fun ac S=>aiF<|aU _ _<|aiG fun _ fE=>adr S 21 [] [(4,.bool (((((decide (1≤a))&&(decide (a≤4096)))&&(decide (1≤b)))&&(decide (b≤4096)))&&(decide ((IntKind.i64.wrap (a*b))≤65536))))] fun ac S=>aiF<|fE _ _<|Vp.rt ?_
 refine aiH S Tryz.results178 ?_
 exact⟨aB (by exact Zz),rfl⟩
theorem AB{w:World}{m:bU}(h:m.ok w) :
  Calls Tryz.prog 134 #[m.v] w fun e w'=>e = .returned (.bool m.valid)∧Ext w w':=by
 obtain⟨a,cap,hs⟩:=h.2.2.shape
 unfold bU.v
 have hq:=h.2.2
 rw[hs]
 rw[hs]at hq
 have hmax:m.l.length≤9223372036854775807:=h.2.2.len
 refine aiK Tryz.func134 Tryz.ntmps134 fun ac S=>aiG fun _ aU=>aiJ S 1 [.int .i64 m.w,.int .i64 m.h,.slice a m.l.length cap] fun ac u b2 E3 hb4 S=>adr S 1 [] [(2,.bool false)] fun ac S=>aiF<|aU _ _<|wp_seq_k fun _ bV=>aiG fun _ iK=>adr S 4 [.mem 0 0,.mem 0 1] [(5,.int .i64 m.w),(7,.int .i64 m.h)] fun ac S=>ai1 S 8 (OU m.w m.h _) fun ac S=>adr S 12 [.mem 0 2,.mem 0 0,.mem 0 1] [(20,.bool ((!(mg m.w m.h))||((((m.l.length:Nat):Int)) != (IntKind.i64.wrap (m.w*m.h)))))] fun ac S=>aiF (iK _ _ ?_)
 refine aiI S (fun kV=>?_) (fun kV=>?_)
 ·refine aiG fun _ dP=>adr S 1 [] [(2,.bool false)] fun ac S=>aiF<|dP _ _<|Vp.rt ?_
  refine aiH S Tryz.results134 ?_
  exact⟨aB (ZA (GK▸kV)),S.E⟩
 ·refine wp_skip<|bV _ _<|wp_seq_k fun _ gB=>aiG fun _ dV=>adr S 1 [] [(3,.int .i64 0)] fun ac S=>aiF<|dV _ _<|wp_block ?_
  refine Vp.loop (ι:=Nat) (fun p a' w'=>p≤m.l.length∧((m.l.take p).all dI.valid=true)∧Sx.St w a' w' 35 [(0,.agg #[.int .i64 m.w,.int .i64 m.h,.slice a m.l.length cap]),(1,.pointer (some ⟨b2,0,none⟩)),(2,.bool false),(3,.int .i64 ((p:Nat):Int))] [(b2,[.int .i64 m.w,.int .i64 m.h,.slice a m.l.length cap])] []) (fun p=>m.l.length-p) (0) ⟨Nat.zero_le _,rfl,(S.sub [(0,.agg #[.int .i64 m.w,.int .i64 m.h,.slice a m.l.length cap]),(1,.pointer (some ⟨b2,0,none⟩)),(2,.bool false),(3,.int .i64 ((0:Nat):Int))]).aK⟩ ?_
  rintro k ac u hI
  try dsimp only at hI
  obtain⟨hk,hR,S⟩:=hI
  refine wp_seq_k fun _ dB=>aiG fun _ dw=>adr S 5 [.mem 0 2] [(25,.bool (decide (((k:Nat):Int)<((m.l.length:Nat):Int))))] fun ac S=>aiF (dw _ _ ?_)
  refine aiI S (fun hc13=>?_) (fun hc13=>?_)
  ·refine wp_skip<|dB _ _<|wp_seq_k fun _ fU=>wp_block<|aiG (fun _ fH=>?_)
   have Ib:k<m.l.length:=by have:=of_decide_eq_true hc13; omega
   obtain⟨b16,o17,c18,hv,XU,Ym⟩:=Vp.aF hq (fun _=>rfl) (k) Ib
   simp only[Value.slice.injEq,true_and]at hv
   obtain⟨rfl,rfl⟩:=hv
   obtain⟨x22,MH⟩:∃z,m.l[k]=z:=⟨_,rfl⟩
   rw[MH]at Ym
   have S:=S.view0 XU Ym
   refine adr S 5 [.mem 0 2,.idx k m.l.length,.mem 1 0] [(32,.agg x22.cells.toArray)] (hk:=⟨Ib,trivial⟩) fun ac S=>aiM S 33 (KQ x22 _) fun ac u Xn S=>adr S 1 [] [(34,.bool (!x22.abn))] fun ac S=>aiF (fH _ _ ?_)
   refine aiI S (fun hc25=>?_) (fun hc25=>?_)
   ·refine aiG fun _ kH=>adr S 1 [] [(2,.bool false)] fun ac S=>aiF<|kH _ _<|Vp.rt ?_
    refine aiH S Tryz.results134 ?_
    exact⟨aB (WL (vg Ib (by rw[MH]; simpa[GL]using hc25))),S.E⟩
   ·refine wp_skip<|fU _ _<|Vp.region<|adr S 3 [.re 27 (.int .i64 (IntKind.i64.wrap (((k:Nat):Int)+1))) (.int .i64 (((k+1):Nat):Int))] [(3,.int .i64 (((k+1):Nat):Int))] (hk:=⟨aiR (by omega),trivial⟩) fun ac S=>aiF ?_
    show ∃i',_∧_
    exact⟨(k+1),⟨by omega,(jR Ib hR (by rw[MH]; simpa[GL]using hc25)),(S.sub [(0,.agg #[.int .i64 m.w,.int .i64 m.h,.slice (some ⟨b16,o17,none⟩) m.l.length cap]),(1,.pointer (some ⟨b2,0,none⟩)),(2,.bool false),(3,.int .i64 (((k+1):Nat):Int))]).aK⟩,by show _-_<_-_; omega⟩
  ·refine wp_exit<|gB _ _<|aiG fun _ lJ=>adr S 1 [] [(2,.bool true)] fun ac S=>aiF<|lJ _ _<|Vp.rt ?_
   refine aiH S Tryz.results134 ?_
   exact⟨aB (WJ (GK▸kV) (mP (by have:=of_decide_eq_false hc13; omega) hR)),S.E⟩
theorem jT(n lo hi:Int)(w:World) :
  Calls Tryz.prog 210 #[.int .i64 n,.int .i64 lo,.int .i64 hi] w fun e w'=>e = .returned (.bool ((decide (lo≤n))&&(decide (n≤hi))))∧w=w':=by
 skip
 refine aiK Tryz.func210 Tryz.ntmps210 fun ac S=>aiG fun _ aU=>adr S 1 [] [(6,.bool false)] fun ac S=>aiF<|aU _ _<|aiG fun _ fE=>adr S 9 [] [(6,.bool ((decide (lo≤n))&&(decide (n≤hi))))] fun ac S=>aiF<|fE _ _<|Vp.rt ?_
 refine aiH S Tryz.results210 ?_
 exact⟨rfl,rfl⟩
theorem KR(n:Int)(w:World) :
  Calls Tryz.prog 209 #[.int .i64 n] w fun e w'=>e = .returned (.bool ((decide (1≤n)&&decide (n≤16384))))∧w=w':=by
 skip
 refine aiK Tryz.func209 Tryz.ntmps209 fun ac S=>aiG fun _ aU=>adr S 1 [] [(2,.bool false)] fun ac S=>aiF<|aU _ _<|aiG fun _ fE=>adr S 1 [] [(3,.int .i64 n)] fun ac S=>ai1 S 4 (jT n 1 16384 _) fun ac S=>adr S 1 [] [(2,.bool (decide (1≤n)&&decide (n≤16384)))] fun ac S=>aiF<|fE _ _<|Vp.rt ?_
 refine aiH S Tryz.results209 ?_
 exact⟨rfl,rfl⟩
theorem Iq{w:World}{v:Value}{l:List Int}(h:dO zf w v l) :
  Calls Tryz.prog 211 #[v] w fun e w'=>e = .returned (.bool (l7 l))∧Ext w w':=by
 obtain⟨a,cap,rfl⟩:=(eG h).shape
 have hmax:l.length≤9223372036854775807:=(eG h).len
 refine aiK Tryz.func211 Tryz.ntmps211 fun ac S=>aiG fun _ aU=>adr S 1 [] [(2,.bool false)] fun ac S=>aiF<|aU _ _<|aiG fun _ fE=>adr S 4 [] [(3,.bool ((((l.length:Nat):Int))==0))] fun ac S=>aiF<|fE _ _<|wp_seq_k fun _ gW=>aiG fun _ lG=>adr S 1 [] [(4,.int .i64 0)] fun ac S=>aiF<|lG _ _<|wp_block ?_
 refine Vp.loop (ι:=Nat×Bool) (fun p a' w'=>p.1≤l.length∧(nX l (l.take p.1)=some p.2)∧Sx.St w a' w' 40 [(0,.slice a l.length cap),(2,.bool false),(3,.bool p.2),(4,.int .i64 ((p.1:Nat):Int))] [] []) (fun p=>l.length-p.1) (0,(((l.length:Nat):Int)==0)) ⟨Nat.zero_le _,IY l,(S.sub [(0,.slice a l.length cap),(2,.bool false),(3,.bool (((l.length:Nat):Int)==0)),(4,.int .i64 ((0:Nat):Int))]).aK⟩ ?_
 rintro⟨k,any⟩ ac u hI
 try dsimp only at hI
 obtain⟨hk,hR,S⟩:=hI
 refine wp_seq_k fun _ bV=>aiG fun _ iK=>adr S 4 [] [(11,.bool (decide (((k:Nat):Int)<((l.length:Nat):Int))))] fun ac S=>aiF (iK _ _ ?_)
 refine aiI S (fun kV=>?_) (fun kV=>?_)
 ·refine wp_skip<|bV _ _<|wp_seq_k fun _ dP=>wp_block<|wp_seq_k fun _ gB=>aiG (fun _ dV=>?_)
  have ZB:k<l.length:=by have:=of_decide_eq_true kV; omega
  obtain⟨b11,o12,c13,hv,VR,afg⟩:=Vp.aF (eG h) (fun _=>rfl) (k) ZB
  simp only[Value.slice.injEq,true_and]at hv
  obtain⟨rfl,rfl⟩:=hv
  obtain⟨x17,abo⟩:∃z,l[k]=z:=⟨_,rfl⟩
  rw[abo]at afg
  have S:=S.view0 VR afg
  refine adr S 4 [.idx k l.length,.mem 0 0] [(17,.int .i64 x17)] (hk:=⟨ZB,trivial⟩) fun ac S=>ai1 S 18 (jT x17 0 1048576 _) fun ac S=>adr S 1 [] [(19,.bool (!(decide (0≤x17)&&decide (x17≤1048576))))] fun ac S=>aiF (dV _ _ ?_)
  refine aiI S (fun hc19=>?_) (fun hc19=>?_)
  ·refine aiG fun _ iU=>adr S 1 [] [(2,.bool false)] fun ac S=>aiF<|iU _ _<|Vp.rt ?_
   refine aiH S Tryz.results211 ?_
   exact⟨aB (MX ZB hR (by rw[abo]; exact WI hc19)),S.E⟩
  ·refine wp_skip<|gB _ _<|Vp.region<|adr S 9 [.idx k l.length,.mem 0 0] [(3,.bool (any||(decide (0<x17))))] (hk:=⟨ZB,trivial⟩) fun ac S=>aiF<|dP _ _<|Vp.region<|adr S 3 [.re 13 (.int .i64 (IntKind.i64.wrap (((k:Nat):Int)+1))) (.int .i64 (((k+1):Nat):Int))] [(4,.int .i64 (((k+1):Nat):Int))] (hk:=⟨aiR (by omega),trivial⟩) fun ac S=>aiF ?_
   show ∃i',_∧_
   exact⟨((k+1),any||(decide (0<x17))),⟨by omega,(by rw[←abo]; exact IZ ZB hR (by rw[abo]; exact RY hc19)),(S.sub [(0,.slice (some ⟨b11,o12,none⟩) l.length cap),(2,.bool false),(3,.bool (any||(decide (0<x17)))),(4,.int .i64 (((k+1):Nat):Int))]).aK⟩,by show _-_<_-_; omega⟩
 ·refine wp_exit<|gW _ _<|aiG fun _ jo=>adr S 13 [] [(2,.bool ((any&&(decide (((l.length:Nat):Int)≤16)))&&(((Int.tmod ((l.length:Nat):Int) 2))==0)))] fun ac S=>aiF<|jo _ _<|Vp.rt ?_
  refine aiH S Tryz.results211 ?_
  exact⟨aB (RZ (by have:=of_decide_eq_false kV; omega) hR),S.E⟩
theorem Ur{p:aZ}{v:Bool}(h:(v=false∧(((!(decide (1≤p.width)&&decide (p.width≤16384)))||(!(decide (1≤p.join)&&decide (p.join≤3))))||(!(decide (3≤p.cap)&&decide (p.cap≤5))))=true)∨(v=(((decide (256≤p.dU)&&decide (p.dU≤65536))&&(l7 p.dash))&&(decide (0≤p.phase)&&decide (p.phase≤1048576)))∧(((!(decide (1≤p.width)&&decide (p.width≤16384)))||(!(decide (1≤p.join)&&decide (p.join≤3))))||(!(decide (3≤p.cap)&&decide (p.cap≤5))))=false)):v=p.valid:=by
 rw[Bool.eq_iff_iff]
 unfold aZ.valid
 generalize l7 p.dash=dd at h ⊢
 rcases h with ⟨rfl,h⟩ | ⟨rfl,h⟩<;>cases dd<;>simp only[Bool.or_eq_true,Bool.and_eq_true,Bool.not_eq_true',Bool.or_eq_false_iff,Bool.not_eq_false',decide_eq_true_eq,Bool.and_eq_false_iff,decide_eq_false_iff_not,beq_iff_eq,Bool.false_eq_true,and_false,false_and,and_true,false_iff]at h ⊢ <;> omega
theorem Kz{w:World}{p:aZ}(h:p.ok w) :
  Calls Tryz.prog 176 #[p.v] w fun e w'=>e = .returned (.bool p.valid)∧Ext w w':=by
 skip
 refine aiK Tryz.func176 Tryz.ntmps176 fun ac S=>aiG fun _ aU=>aiJ S 1 p.cells fun ac u b2 E3 hb4 S=>adr S 1 [] [(2,.bool false)] fun ac S=>aiF<|aU _ _<|wp_seq_k fun _ bV=>aiG fun _ iK=>adr S 2 [.mem 0 0] [(4,.int .i64 p.width)] fun ac S=>ai1 S 5 (KR p.width _) fun ac S=>aiT S 13 [.mem 0 1,.mem 0 2] [(_,_,(!(!(decide (1≤p.width)&&decide (p.width≤16384)))),.bool (decide (1≤p.join)&&decide (p.join≤3))),(_,_,(!((!(decide (1≤p.width)&&decide (p.width≤16384)))||(!(decide (1≤p.join)&&decide (p.join≤3))))),.bool (decide (3≤p.cap)&&decide (p.cap≤5)))] [(18,.bool (((!(decide (1≤p.width)&&decide (p.width≤16384)))||(!(decide (1≤p.join)&&decide (p.join≤3))))||(!(decide (3≤p.cap)&&decide (p.cap≤5)))))] ⟨fun u hC g=>aiU (jT p.join 1 3 _),fun u hC g=>aiU (jT p.cap 3 5 _),trivial⟩ fun ac u E7 S=>aiF (iK _ _ ?_)
 refine aiI S (fun hc8=>?_) (fun hc8=>?_)
 ·refine aiG fun _ gB=>adr S 1 [] [(2,.bool false)] fun ac S=>aiF<|gB _ _<|Vp.rt ?_
  have p0:=hc8
  refine aiH S Tryz.results176 ?_
  exact⟨aB (Ur (.inl ⟨rfl,p0⟩)),S.E⟩
 ·refine wp_skip<|bV _ _<|aiG fun _ dV=>adr S 2 [.mem 0 3] [(20,.int .i64 p.dU)] fun ac S=>ai1 S 21 (jT p.dU 256 65536 _) fun ac S=>aiT S 11 [.mem 0 4,.mem 0 5] [(_,_,(decide (256≤p.dU)&&decide (p.dU≤65536)),.bool (l7 p.dash)),(_,_,((decide (256≤p.dU)&&decide (p.dU≤65536))&&(l7 p.dash)),.bool (decide (0≤p.phase)&&decide (p.phase≤1048576)))] [(2,.bool (((decide (256≤p.dU)&&decide (p.dU≤65536))&&(l7 p.dash))&&(decide (0≤p.phase)&&decide (p.phase≤1048576))))] ⟨fun u hC g=>Iq (h.2.2.2.2.1.below (Ext.trans' S.E hC)),fun u hC g=>aiU (jT p.phase 0 1048576 _),trivial⟩ fun ac u sF S=>aiF<|dV _ _<|Vp.rt ?_
  have p0:=hc8
  refine aiH S Tryz.results176 ?_
  exact⟨aB (Ur (.inr ⟨rfl,p0⟩)),S.E⟩
def oG(x y:Int):Bool:=(((decide (-1048576≤x))&&(decide (x≤1048576)))&&(decide (-1048576≤y)))&&(decide (y≤1048576))
theorem lu(x y:Int)(w:World) :
  Calls Tryz.prog 238 #[.agg #[.int .i64 x,.int .i64 y]] w fun e w'=>e = .returned (.bool (oG x y))∧Ext w w':=by
 skip
 refine aiK Tryz.func238 Tryz.ntmps238 fun ac S=>aiG fun _ aU=>aiJ S 1 [.int .i64 x,.int .i64 y] fun ac u b2 E3 hb4 S=>adr S 1 [] [(2,.bool false)] fun ac S=>aiF<|aU _ _<|aiG fun _ bV=>adr S 19 [.mem 0 0,.mem 0 0,.mem 0 1,.mem 0 1] [(2,.bool ((((decide (-1048576≤x))&&(decide (x≤1048576)))&&(decide (-1048576≤y)))&&(decide (y≤1048576))))] fun ac S=>aiF<|bV _ _<|Vp.rt ?_
 refine aiH S Tryz.results238 ?_
 exact⟨rfl,S.E⟩
theorem tX(n:Int)(w:World) :
  Calls Tryz.prog 258 #[.int .i64 n] w fun e w'=>e = .returned (.bool ((decide (1≤n))&&(decide (n≤3))))∧w=w':=by
 skip
 refine aiK Tryz.func258 Tryz.ntmps258 fun ac S=>aiG fun _ aU=>adr S 1 [] [(2,.bool false)] fun ac S=>aiF<|aU _ _<|aiG fun _ fE=>adr S 7 [] [(2,.bool ((decide (1≤n))&&(decide (n≤3))))] fun ac S=>aiF<|fE _ _<|Vp.rt ?_
 refine aiH S Tryz.results258 ?_
 exact⟨rfl,rfl⟩
end Go.Proofs.YtfmkkemfhjkajaaGreatDoor
