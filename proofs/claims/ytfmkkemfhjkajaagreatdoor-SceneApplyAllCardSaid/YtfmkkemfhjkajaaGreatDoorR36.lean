/- The references that the law NodeCheck calls: the simple tests. -/
import Derived.Test.YtfmkkemfhjkajaaGreatDoorCheck
set_option maxHeartbeats 1600000
set_option maxRecDepth 100000
namespace Go.Proofs.YtfmkkemfhjkajaaGreatDoor
open Go.RowKit
variable{α:Type}{K:Nat}
set_option linter.unusedVariables false
def mY(a b:Int):Bool:=(side a&&side b)&&decide (a*b≤65536)
theorem Yw{x lo hi:Int}(h:(!(decide (lo≤x)&&decide (x≤hi)))=true):((decide (x<lo))||(decide (hi<x)))=true:=by
 simp only[Bool.not_eq_true',Bool.and_eq_false_iff,decide_eq_false_iff_not]at h;simp only[Bool.or_eq_true,decide_eq_true_eq]; omega
theorem Uu{x lo hi:Int}(h:(!(decide (lo≤x)&&decide (x≤hi)))=false):((decide (x<lo))||(decide (hi<x)))=false:=by
 simp only[Bool.not_eq_false',Bool.and_eq_true,decide_eq_true_eq]at h;simp only[Bool.or_eq_false_iff,decide_eq_false_iff_not]; omega
theorem Uw{l:List Int}{k:Nat}{any:Bool}(hk:l.length≤k)(hR:oH l (l.take k)=some any):((any&&(decide ((l.length:Int)≤16)))&&((Int.tmod (l.length:Int) 2)==0))=mW l:=by
 rw[←OD hk hR,Bool.and_assoc,Bool.and_assoc,Bool.and_comm (decide _)]
theorem abm{a b:Int}:(((((decide (1≤a))&&(decide (a≤4096)))&&(decide (1≤b)))&&(decide (b≤4096)))&&(decide (IntKind.i64.wrap (a*b)≤65536)))=mY a b:=by
 unfold mY;cases ha:side a
 ·have:((decide (1≤a))&&(decide (a≤4096)))=false:=ha;rw[this]; rfl
 cases hb:side b
 ·have:((decide (1≤b))&&(decide (b≤4096)))=false:=hb;rw[Bool.and_assoc ((decide (1≤a))&&(decide (a≤4096))),this]; simp
 rw[Dh ha hb];have h1:((decide (1≤a))&&(decide (a≤4096)))=true:=ha;have h2:((decide (1≤b))&&(decide (b≤4096)))=true:=hb;rw[Bool.and_assoc ((decide (1≤a))&&(decide (a≤4096))),h1,h2]
theorem Qq{a b:Int}(h:mY a b=true):IntKind.i64.wrap (a*b)=a*b:=by
 unfold mY at h;simp only[Bool.and_eq_true]at h;exact Dh h.1.1 h.1.2
theorem Io{m:bZ}:((!(mY m.w m.h))||((m.l.length:Int) != IntKind.i64.wrap (m.w*m.h)))=((!(mY m.w m.h))||((m.l.length:Int) != (m.w*m.h))):=by
 cases h:mY m.w m.h
 ·rfl
 rw[Qq h]
theorem Kt(m:bZ):mY m.w m.h=m.size:=by unfold mY bZ.size; rw[Bool.and_assoc]
theorem abn{m:bZ}(h:((!(mY m.w m.h))||((m.l.length:Int) != (m.w*m.h)))=true):false=m.valid:=by
 unfold bZ.valid;rw[←Kt];revert h;cases mY m.w m.h<;>simp;intro h h1; omega
theorem Yx{m:bZ}(h:((!(mY m.w m.h))||((m.l.length:Int) != (m.w*m.h)))=false)(ha:m.l.all bY.valid=true):true=m.valid:=by
 unfold bZ.valid;rw[←Kt];revert h;cases mY m.w m.h<;>simp;intro h; exact⟨h,by simpa using ha⟩
theorem Yy{m:bZ}(ha:m.l.all bY.valid=false):false=m.valid:=by
 unfold bZ.valid;rw[ha]; simp
theorem D8(n:Int)(w:World) :
  Calls Tryz.prog 171 #[.i n] w fun e w'=>e = .returned (.bool (((n)==1)||((n)==2)))∧w=w':=by
 skip;refine akk Tryz.func171 Tryz.ntmps171 fun ac S=>akg fun _ aP=>adr S 1 [] [(2,.bool false)] fun S=>akf<|aP _ _<|akg fun _ fE=>adr S 7 [] [(2,.bool (((n)==1)||((n)==2)))] fun S=>akf<|fE _ _<|akj S Tryz.results171 ?_;exact⟨rfl,rfl⟩
def aj.qg(nd:aj):Bool:=(((((nd.path.length:Int))==0)&&((nd.aQ)==0))&&(((nd.fill.length:Int))==0))&&(((nd.stroke.length:Int))==0)
theorem yC{w:World}{nd:aj}(h:nd.ok w) :
  Calls Tryz.prog 172 #[nd.v] w fun e w'=>e = .returned (.bool (nd.qg))∧Ext w w':=by
 skip;refine akk Tryz.func172 Tryz.ntmps172 fun ac S=>akg fun _ aP=>akh S 1 nd.cells fun ac u b2 E3 hb4 S=>adr S 1 [] [(2,.bool false)] fun S=>akf<|aP _ _<|akg fun _ dG=>adr S 22 [.mem 0 33,.mem 0 34,.mem 0 35,.mem 0 42] [(2,.bool ((((((nd.path.length:Int))==0)&&((nd.aQ)==0))&&(((nd.fill.length:Int))==0))&&(((nd.stroke.length:Int))==0)))] fun S=>akf<|dG _ _<|akj S Tryz.results172 ?_;exact⟨rfl,S.E⟩
def aj.lN(nd:aj):Bool:=((((((nd.style.width)==0)&&((nd.style.join)==0))&&((nd.style.cap)==0))&&((nd.style.eu)==0))&&(((nd.style.dash.length:Int))==0))&&((nd.style.phase)==0)
theorem sO{w:World}{nd:aj}(h:nd.ok w) :
  Calls Tryz.prog 173 #[nd.v] w fun e w'=>e = .returned (.bool (nd.lN))∧Ext w w':=by
 skip;refine akk Tryz.func173 Tryz.ntmps173 fun ac S=>akg fun _ aP=>akh S 1 nd.cells fun ac u b2 E3 hb4 S=>adr S 1 [] [(2,.bool false)] fun S=>akf<|aP _ _<|akg fun _ dG=>adr S 2 [.mem 0 36] [(5,nd.style.v)] fun S=>akh S 3 [.i 0,.i 0,.i 0,.i 0,.slice none 0 0,.i 0] fun ac u b6 E7 hb8 S=>akl S 0 (off:=0) (cs:=nd.style.cells) rfl fun u C9 S=>akf<|dG _ _<|akg fun _ fD=>adr S 30 [.mem 0 0,.mem 0 1,.mem 0 2,.mem 0 3,.mem 0 4,.mem 0 5] [(2,.bool (((((((nd.style.width)==0)&&((nd.style.join)==0))&&((nd.style.cap)==0))&&((nd.style.eu)==0))&&(((nd.style.dash.length:Int))==0))&&((nd.style.phase)==0)))] fun S=>akf<|fD _ _<|akj S Tryz.results173 ?_;exact⟨rfl,S.E⟩
def aj.rF(nd:aj):Bool:=((((nd.img.w)==0)&&((nd.img.h)==0))&&(((nd.img.l.length:Int))==0))&&((nd.bQ)==0)
theorem yD{w:World}{nd:aj}(h:nd.ok w) :
  Calls Tryz.prog 174 #[nd.v] w fun e w'=>e = .returned (.bool (nd.rF))∧Ext w w':=by
 skip;refine akk Tryz.func174 Tryz.ntmps174 fun ac S=>akg fun _ aP=>akh S 1 nd.cells fun ac u b2 E3 hb4 S=>adr S 1 [] [(2,.bool false)] fun S=>akf<|aP _ _<|akg fun _ dG=>adr S 23 [.mem 0 43,.mem 0 44,.mem 0 45,.mem 0 46] [(2,.bool (((((nd.img.w)==0)&&((nd.img.h)==0))&&(((nd.img.l.length:Int))==0))&&((nd.bQ)==0)))] fun S=>akf<|dG _ _<|akj S Tryz.results174 ?_;exact⟨rfl,S.E⟩
def aj.rG(nd:aj):Bool:=(((((nd.dH.toNat:Int))==0)&&((nd.blend)==0))&&(!nd.isolated))&&(!nd.bM)
theorem yE{w:World}{nd:aj}(h:nd.ok w) :
  Calls Tryz.prog 175 #[nd.v] w fun e w'=>e = .returned (.bool (nd.rG))∧Ext w w':=by
 skip;refine akk Tryz.func175 Tryz.ntmps175 fun ac S=>akg fun _ aP=>akh S 1 nd.cells fun ac u b2 E3 hb4 S=>adr S 1 [] [(2,.bool false)] fun S=>akf<|aP _ _<|akg fun _ dG=>adr S 19 [.mem 0 29,.mem 0 30,.mem 0 31,.mem 0 32] [(2,.bool ((((((nd.dH.toNat:Int))==0)&&((nd.blend)==0))&&(!nd.isolated))&&(!nd.bM)))] fun S=>akf<|dG _ _<|akj S Tryz.results175 ?_;exact⟨rfl,S.E⟩
def aj.rE(nd:aj):Bool:=cond (((((nd.clip.length:Int))==0)&&((nd.aK) != 0))||((decide (0<(nd.clip.length:Int)))&&(!((nd.aK==1)||(nd.aK==2))))) (false) (cond ((nd.kind)==1) ((nd.qg&&nd.lN)&&nd.rF) (cond ((nd.kind)==2) (nd.rG&&nd.rF) ((nd.rG&&nd.qg)&&nd.lN)))
theorem TS{w:World}{nd:aj}(h:nd.ok w) :
  Calls Tryz.prog 131 #[nd.v] w fun e w'=>e = .returned (.bool nd.rE)∧Ext w w':=by
 skip;refine akk Tryz.func131 Tryz.ntmps131 fun ac S=>akg fun _ aP=>akh S 1 nd.cells fun ac u b2 E3 hb4 S=>adr S 1 [] [(2,.bool false)] fun S=>akf<|aP _ _<|wp_seq_k fun _ dG=>akg fun _ jl=>aku S 21 [.mem 0 27,.mem 0 28,.mem 0 27,.mem 0 28] [(_,_,((!((((nd.clip.length:Int))==0)&&((nd.aK) != 0)))&&(decide (0<(nd.clip.length:Int)))),.bool ((nd.aK==1)||(nd.aK==2)))] [(23,.bool (((((nd.clip.length:Int))==0)&&((nd.aK) != 0))||((decide (0<(nd.clip.length:Int)))&&(!((nd.aK==1)||(nd.aK==2))))))] ⟨fun u hC g=>akw (D8 nd.aK _),trivial⟩ fun ac u E7 S=>akf (jl _ _ ?_);refine aki S (fun hc8=>?_) (fun hc8=>?_)
 ·refine akg fun _ gX=>adr S 1 [] [(2,.bool false)] fun S=>akf<|gX _ _<|Vp.rt ?_;have p0:=hc8;refine akm S Tryz.results131 ?_;exact⟨aB (by unfold aj.rE; simp only[p0,cond_true]),S.E⟩
 refine wp_skip<|dG _ _<|wp_seq_k fun _ fD=>akg fun _ dn=>adr S 2 [.mem 0 1] [(25,.i nd.kind)] fun S=>akf<|dn _ _<|wp_block<|akg fun _ bV=>adr S 2 [] [(26,.bool ((nd.kind)==1))] fun S=>akf (bV _ _ ?_);refine aki S (fun hc13=>?_) (fun hc13=>?_)
 ·refine akg fun _ fC=>adr S 1 [.mem 0 0] [(28,nd.v)] fun S=>akn S 29 (yC (h.below S.E)) fun ac u QM S=>aku S 9 [.mem 0 0,.mem 0 0] [(_,_,nd.qg,.bool nd.lN),(_,_,(nd.qg&&nd.lN),.bool nd.rF)] [(2,.bool ((nd.qg&&nd.lN)&&nd.rF))] ⟨fun u hC g=>sO (h.below (Ext.trans' S.E hC)),fun u hC g=>yD (h.below (Ext.trans' S.E hC)),trivial⟩ fun ac u Nv S=>akf<|fC _ _<|Vp.rt ?_;have p0:=hc8;have p1:=hc13;refine akm S Tryz.results131 ?_;exact⟨aB (by unfold aj.rE; simp only[p0,p1,cond_true,cond_false]),S.E⟩
 refine akg fun _ gI=>adr S 2 [] [(38,.bool ((nd.kind)==2))] fun S=>akf (gI _ _ ?_);refine aki S (fun hc18=>?_) (fun hc18=>?_)
 ·refine akg fun _ jI=>adr S 1 [.mem 0 0] [(40,nd.v)] fun S=>akn S 41 (yE (h.below S.E)) fun ac u Ez S=>aku S 5 [.mem 0 0] [(_,_,nd.rG,.bool nd.rF)] [(2,.bool (nd.rG&&nd.rF))] ⟨fun u hC g=>yD (h.below (Ext.trans' S.E hC)),trivial⟩ fun ac u zo S=>akf<|jI _ _<|Vp.rt ?_;have p0:=hc8;have p1:=hc13;have p2:=hc18;refine akm S Tryz.results131 ?_;exact⟨aB (by unfold aj.rE; simp only[p0,p1,p2,cond_true,cond_false]),S.E⟩
 refine wp_skip<|fD _ _<|akg fun _ jv=>adr S 1 [.mem 0 0] [(46,nd.v)] fun S=>akn S 47 (yE (h.below S.E)) fun ac u Jt S=>aku S 9 [.mem 0 0,.mem 0 0] [(_,_,nd.rG,.bool nd.qg),(_,_,(nd.rG&&nd.qg),.bool nd.lN)] [(2,.bool ((nd.rG&&nd.qg)&&nd.lN))] ⟨fun u hC g=>yC (h.below (Ext.trans' S.E hC)),fun u hC g=>sO (h.below (Ext.trans' S.E hC)),trivial⟩ fun ac u Nz S=>akf<|jv _ _<|Vp.rt ?_;have p0:=hc8;have p1:=hc13;have p2:=hc18;refine akm S Tryz.results131 ?_;exact⟨aB (by unfold aj.rE; simp only[p0,p1,p2,cond_false]),S.E⟩
theorem PZ(n:Int)(w:World) :
  Calls Tryz.prog 133 #[.i n] w fun e w'=>e = .returned (.bool ((decide (1≤n))&&(decide (n≤13))))∧w=w':=by
 skip;refine akk Tryz.func133 Tryz.ntmps133 fun ac S=>akg fun _ aP=>adr S 1 [] [(2,.bool false)] fun S=>akf<|aP _ _<|akg fun _ fE=>adr S 7 [] [(2,.bool ((decide (1≤n))&&(decide (n≤13))))] fun S=>akf<|fE _ _<|akj S Tryz.results133 ?_;exact⟨rfl,rfl⟩
def bY.ac2(p:bY):Bool:=((decide ((p.r.toNat:Int)≤(p.a.toNat:Int)))&&(decide ((p.g.toNat:Int)≤(p.a.toNat:Int))))&&(decide ((p.b.toNat:Int)≤(p.a.toNat:Int)))
theorem MI(p:bY)(w:World) :
  Calls Tryz.prog 179 #[.agg #[.int .u8 (p.r.toNat:Int),.int .u8 (p.g.toNat:Int),.int .u8 (p.b.toNat:Int),.int .u8 (p.a.toNat:Int)]] w fun e w'=>e = .returned (.bool (p.ac2))∧Ext w w':=by
 skip;refine akk Tryz.func179 Tryz.ntmps179 fun ac S=>akg fun _ aP=>akh S 1 p.cells fun ac u b2 E3 hb4 S=>adr S 1 [] [(2,.bool false)] fun S=>akf<|aP _ _<|akg fun _ dG=>adr S 20 [.mem 0 0,.mem 0 3,.mem 0 1,.mem 0 3,.mem 0 2,.mem 0 3] [(2,.bool (((decide ((p.r.toNat:Int)≤(p.a.toNat:Int)))&&(decide ((p.g.toNat:Int)≤(p.a.toNat:Int))))&&(decide ((p.b.toNat:Int)≤(p.a.toNat:Int)))))] fun S=>akf<|dG _ _<|akj S Tryz.results179 ?_;exact⟨rfl,S.E⟩
theorem Ip(p:bY):p.ac2=p.valid:=by
 unfold bY.ac2 bY.valid;simp only[UInt8.le_iff_toNat_le,Int.ofNat_le,Bool.and_assoc]
theorem Qr(a b:Int)(w:World) :
  Calls Tryz.prog 178 #[.i a,.i b] w fun e w'=>e = .returned (.bool (mY a b))∧w=w':=by
 skip;refine akk Tryz.func178 Tryz.ntmps178 fun ac S=>akg fun _ aP=>adr S 1 [] [(4,.bool false)] fun S=>akf<|aP _ _<|akg fun _ fE=>adr S 21 [] [(4,.bool (((((decide (1≤a))&&(decide (a≤4096)))&&(decide (1≤b)))&&(decide (b≤4096)))&&(decide ((IntKind.i64.wrap (a*b))≤65536))))] fun S=>akf<|fE _ _<|akj S Tryz.results178 ?_;exact⟨aB (by exact abm),rfl⟩
theorem BO{w:World}{m:bZ}(h:m.ok w) :
  Calls Tryz.prog 134 #[m.v] w fun e w'=>e = .returned (.bool m.valid)∧Ext w w':=by
 obtain⟨a,cap,hs⟩:=h.2.2.shape;unfold bZ.v;have hq:=h.2.2;rw[hs];rw[hs]at hq;have hmax:m.l.length≤9223372036854775807:=h.2.2.len;refine akk Tryz.func134 Tryz.ntmps134 fun ac S=>akg fun _ aP=>akh S 1 [.i m.w,.i m.h,.slice a m.l.length cap] fun ac u b2 E3 hb4 S=>adr S 1 [] [(2,.bool false)] fun S=>akf<|aP _ _<|wp_seq_k fun _ dG=>akg fun _ jl=>adr S 4 [.mem 0 0,.mem 0 1] [(5,.i m.w),(7,.i m.h)] fun S=>akD S 8 (Qr m.w m.h _) fun ac S=>adr S 12 [.mem 0 2,.mem 0 0,.mem 0 1] [(20,.bool ((!(mY m.w m.h))||(((m.l.length:Int)) != (IntKind.i64.wrap (m.w*m.h)))))] fun S=>akf (jl _ _ ?_);refine aki S (fun lD=>?_) (fun lD=>?_)
 ·refine akg fun _ dM=>adr S 1 [] [(2,.bool false)] fun S=>akf<|dM _ _<|akj S Tryz.results134 ?_;exact⟨aB (abn (Io▸lD)),S.E⟩
 refine wp_skip<|dG _ _<|wp_seq_k fun _ gX=>akg fun _ fD=>adr S 1 [] [(3,.i 0)] fun S=>akf<|fD _ _<|wp_block ?_;refine Vp.loop (ι:=Nat) (fun p a' w'=>p≤m.l.length∧((m.l.take p).all bY.valid=true)∧Sx.St w a' w' 35 [(0,.agg #[.i m.w,.i m.h,.slice a m.l.length cap]),(1,.pointer (some ⟨b2,0,none⟩)),(2,.bool false),(3,.i p)] [(b2,[.i m.w,.i m.h,.slice a m.l.length cap])] []) (fun p=>m.l.length-p) (0) ⟨Nat.zero_le _,rfl,S.sn⟩ ?_;rintro k ac u hI;try dsimp only at hI
 obtain⟨hk,hR,S⟩:=hI;refine wp_seq_k fun _ dn=>akg fun _ bV=>adr S 5 [.mem 0 2] [(25,.bool ((k:Int)<(m.l.length:Int)))] fun S=>akf (bV _ _ ?_);refine aki S (fun hc13=>?_) (fun hc13=>?_)
 ·refine wp_skip<|dn _ _<|wp_seq_k fun _ fC=>wp_block<|akg (fun _ fP=>?_);have Ji:k<m.l.length:=by have:=of_decide_eq_true hc13; omega
  obtain⟨b16,o17,rfl,x22,Yl,NK,afi⟩:=Vp.gY hq (fun _=>rfl) (k) Ji;have S:=S.view0 NK afi;refine adr S 5 [.mem 0 2,.idx k m.l.length,.mem 1 0] [(32,.agg x22.cells.toArray)] (hk:=⟨Ji,trivial⟩) fun S=>akn S 33 (MI x22 _) fun ac u Nz S=>adr S 1 [] [(34,.bool (!x22.ac2))] fun S=>akf (fP _ _ ?_);refine aki S (fun hc25=>?_) (fun hc25=>?_)
  ·refine akg fun _ kN=>adr S 1 [] [(2,.bool false)] fun S=>akf<|kN _ _<|akj S Tryz.results134 ?_;exact⟨aB (Yy (wu Ji (by rw[Yl]; simpa[Ip]using hc25))),S.E⟩
  refine wp_skip<|fC _ _<|Vp.region<|adr S 3 [.re 27 (.i (IntKind.i64.wrap ((k:Int)+1))) (.i (k+1:Nat))] [(3,.i (k+1:Nat))] (hk:=⟨aks (by omega),trivial⟩) fun S=>akf ?_;show ∃i',_∧_;exact⟨(k+1),⟨by omega,(kJ Ji hR (by rw[Yl]; simpa[Ip]using hc25)),S.sn⟩,by show _-_<_-_; omega⟩
 refine wp_exit<|gX _ _<|akg fun _ jK=>adr S 1 [] [(2,.bool true)] fun S=>akf<|jK _ _<|akj S Tryz.results134 ?_;exact⟨aB (Yx (Io▸lD) (nJ (by have:=of_decide_eq_false hc13; omega) hR)),S.E⟩
theorem kL(n lo hi:Int)(w:World) :
  Calls Tryz.prog 210 #[.i n,.i lo,.i hi] w fun e w'=>e = .returned (.bool ((decide (lo≤n))&&(decide (n≤hi))))∧w=w':=by
 skip;refine akk Tryz.func210 Tryz.ntmps210 fun ac S=>akg fun _ aP=>adr S 1 [] [(6,.bool false)] fun S=>akf<|aP _ _<|akg fun _ fE=>adr S 9 [] [(6,.bool ((decide (lo≤n))&&(decide (n≤hi))))] fun S=>akf<|fE _ _<|akj S Tryz.results210 ?_;exact⟨rfl,rfl⟩
theorem MJ(n:Int)(w:World) :
  Calls Tryz.prog 209 #[.i n] w fun e w'=>e = .returned (.bool ((decide (1≤n)&&decide (n≤16384))))∧w=w':=by
 skip;refine akk Tryz.func209 Tryz.ntmps209 fun ac S=>akg fun _ aP=>adr S 1 [] [(2,.bool false)] fun S=>akf<|aP _ _<|akg fun _ fE=>adr S 1 [] [(3,.i n)] fun S=>akD S 4 (kL n 1 16384 _) fun ac S=>adr S 1 [] [(2,.bool (decide (1≤n)&&decide (n≤16384)))] fun S=>akf<|fE _ _<|akj S Tryz.results209 ?_;exact⟨rfl,rfl⟩
theorem Jk{w:World}{v:Value}{l:List Int}(h:dW zn w v l) :
  Calls Tryz.prog 211 #[v] w fun e w'=>e = .returned (.bool (mW l))∧Ext w w':=by
 obtain⟨a,cap,rfl⟩:=(dS h).shape;have hmax:l.length≤9223372036854775807:=(dS h).len;refine akk Tryz.func211 Tryz.ntmps211 fun ac S=>akg fun _ aP=>adr S 1 [] [(2,.bool false)] fun S=>akf<|aP _ _<|akg fun _ fE=>adr S 4 [] [(3,.bool (((l.length:Int))==0))] fun S=>akf<|fE _ _<|wp_seq_k fun _ iM=>akg fun _ lX=>adr S 1 [] [(4,.i 0)] fun S=>akf<|lX _ _<|wp_block ?_;refine Vp.loop (ι:=Nat×Bool) (fun p a' w'=>p.1≤l.length∧(oH l (l.take p.1)=some p.2)∧Sx.St w a' w' 40 [(0,.slice a l.length cap),(2,.bool false),(3,.bool p.2),(4,.i p.1)] [] []) (fun p=>l.length-p.1) (0,((l.length:Int)==0)) ⟨Nat.zero_le _,Jz l,S.sn⟩ ?_;rintro⟨k,any⟩ ac u hI;try dsimp only at hI
 obtain⟨hk,hR,S⟩:=hI;refine wp_seq_k fun _ dG=>akg fun _ jl=>adr S 4 [] [(11,.bool ((k:Int)<(l.length:Int)))] fun S=>akf (jl _ _ ?_);refine aki S (fun lD=>?_) (fun lD=>?_)
 ·refine wp_skip<|dG _ _<|wp_seq_k fun _ dM=>wp_block<|wp_seq_k fun _ gX=>akg (fun _ fD=>?_);have abo:k<l.length:=by have:=of_decide_eq_true lD; omega
  obtain⟨b11,o12,rfl,x17,afo,XD,aiJ⟩:=Vp.gY (dS h) (fun _=>rfl) (k) abo;have S:=S.view0 XD aiJ;refine adr S 4 [.idx k l.length,.mem 0 0] [(17,.i x17)] (hk:=⟨abo,trivial⟩) fun S=>akD S 18 (kL x17 0 1048576 _) fun ac S=>adr S 1 [] [(19,.bool (!(decide (0≤x17)&&decide (x17≤1048576))))] fun S=>akf (fD _ _ ?_);refine aki S (fun hc19=>?_) (fun hc19=>?_)
  ·refine akg fun _ iT=>adr S 1 [] [(2,.bool false)] fun S=>akf<|iT _ _<|akj S Tryz.results211 ?_;exact⟨aB (OC abo hR (by rw[afo]; exact Yw hc19)),S.E⟩
  refine wp_skip<|gX _ _<|Vp.region<|adr S 9 [.idx k l.length,.mem 0 0] [(3,.bool (any||(decide (0<x17))))] (hk:=⟨abo,trivial⟩) fun S=>akf<|dM _ _<|Vp.region<|adr S 3 [.re 13 (.i (IntKind.i64.wrap ((k:Int)+1))) (.i (k+1:Nat))] [(4,.i (k+1:Nat))] (hk:=⟨aks (by omega),trivial⟩) fun S=>akf ?_;show ∃i',_∧_;exact⟨((k+1),any||(decide (0<x17))),⟨by omega,(by rw[←afo]; exact JA abo hR (by rw[afo]; exact Uu hc19)),S.sn⟩,by show _-_<_-_; omega⟩
 refine wp_exit<|iM _ _<|akg fun _ jJ=>adr S 13 [] [(2,.bool ((any&&(decide ((l.length:Int)≤16)))&&(((Int.tmod (l.length:Int) 2))==0)))] fun S=>akf<|jJ _ _<|akj S Tryz.results211 ?_;exact⟨aB (Uw (by have:=of_decide_eq_false lD; omega) hR),S.E⟩
theorem V6{p:aY}{v:Bool}(h:(v=false∧(((!(decide (1≤p.width)&&decide (p.width≤16384)))||(!(decide (1≤p.join)&&decide (p.join≤3))))||(!(decide (3≤p.cap)&&decide (p.cap≤5))))=true)∨(v=(((decide (256≤p.eu)&&decide (p.eu≤65536))&&(mW p.dash))&&(decide (0≤p.phase)&&decide (p.phase≤1048576)))∧(((!(decide (1≤p.width)&&decide (p.width≤16384)))||(!(decide (1≤p.join)&&decide (p.join≤3))))||(!(decide (3≤p.cap)&&decide (p.cap≤5))))=false)):v=p.valid:=by
 rw[Bool.eq_iff_iff];unfold aY.valid;generalize mW p.dash=dd at h ⊢;rcases h with ⟨rfl,h⟩ | ⟨rfl,h⟩<;>cases dd<;>simp only[Bool.or_eq_true,Bool.and_eq_true,Bool.not_eq_true',Bool.or_eq_false_iff,Bool.not_eq_false',decide_eq_true_eq,Bool.and_eq_false_iff,decide_eq_false_iff_not,beq_iff_eq,Bool.false_eq_true,and_false,false_and,and_true,false_iff]at h ⊢ <;> omega
theorem LW{w:World}{p:aY}(h:p.ok w) :
  Calls Tryz.prog 176 #[p.v] w fun e w'=>e = .returned (.bool p.valid)∧Ext w w':=by
 skip;refine akk Tryz.func176 Tryz.ntmps176 fun ac S=>akg fun _ aP=>akh S 1 p.cells fun ac u b2 E3 hb4 S=>adr S 1 [] [(2,.bool false)] fun S=>akf<|aP _ _<|wp_seq_k fun _ dG=>akg fun _ jl=>adr S 2 [.mem 0 0] [(4,.i p.width)] fun S=>akD S 5 (MJ p.width _) fun ac S=>aku S 13 [.mem 0 1,.mem 0 2] [(_,_,(!(!(decide (1≤p.width)&&decide (p.width≤16384)))),.bool (decide (1≤p.join)&&decide (p.join≤3))),(_,_,(!((!(decide (1≤p.width)&&decide (p.width≤16384)))||(!(decide (1≤p.join)&&decide (p.join≤3))))),.bool (decide (3≤p.cap)&&decide (p.cap≤5)))] [(18,.bool (((!(decide (1≤p.width)&&decide (p.width≤16384)))||(!(decide (1≤p.join)&&decide (p.join≤3))))||(!(decide (3≤p.cap)&&decide (p.cap≤5)))))] ⟨fun u hC g=>akw (kL p.join 1 3 _),fun u hC g=>akw (kL p.cap 3 5 _),trivial⟩ fun ac u E7 S=>akf (jl _ _ ?_);refine aki S (fun hc8=>?_) (fun hc8=>?_)
 ·refine akg fun _ gX=>adr S 1 [] [(2,.bool false)] fun S=>akf<|gX _ _<|Vp.rt ?_;have p0:=hc8;refine akm S Tryz.results176 ?_;exact⟨aB (V6 (.inl ⟨rfl,p0⟩)),S.E⟩
 refine wp_skip<|dG _ _<|akg fun _ fD=>adr S 2 [.mem 0 3] [(20,.i p.eu)] fun S=>akD S 21 (kL p.eu 256 65536 _) fun ac S=>aku S 11 [.mem 0 4,.mem 0 5] [(_,_,(decide (256≤p.eu)&&decide (p.eu≤65536)),.bool (mW p.dash)),(_,_,((decide (256≤p.eu)&&decide (p.eu≤65536))&&(mW p.dash)),.bool (decide (0≤p.phase)&&decide (p.phase≤1048576)))] [(2,.bool (((decide (256≤p.eu)&&decide (p.eu≤65536))&&(mW p.dash))&&(decide (0≤p.phase)&&decide (p.phase≤1048576))))] ⟨fun u hC g=>Jk (h.2.2.2.2.1.below (Ext.trans' S.E hC)),fun u hC g=>akw (kL p.phase 0 1048576 _),trivial⟩ fun ac u xA S=>akf<|fD _ _<|Vp.rt ?_;have p0:=hc8;refine akm S Tryz.results176 ?_;exact⟨aB (V6 (.inr ⟨rfl,p0⟩)),S.E⟩
def oQ(x y:Int):Bool:=(((decide (-1048576≤x))&&(decide (x≤1048576)))&&(decide (-1048576≤y)))&&(decide (y≤1048576))
theorem lM(x y:Int)(w:World) :
  Calls Tryz.prog 238 #[.agg #[.i x,.i y]] w fun e w'=>e = .returned (.bool (oQ x y))∧Ext w w':=by
 skip;refine akk Tryz.func238 Tryz.ntmps238 fun ac S=>akg fun _ aP=>akh S 1 [.i x,.i y] fun ac u b2 E3 hb4 S=>adr S 1 [] [(2,.bool false)] fun S=>akf<|aP _ _<|akg fun _ dG=>adr S 19 [.mem 0 0,.mem 0 0,.mem 0 1,.mem 0 1] [(2,.bool ((((decide (-1048576≤x))&&(decide (x≤1048576)))&&(decide (-1048576≤y)))&&(decide (y≤1048576))))] fun S=>akf<|dG _ _<|akj S Tryz.results238 ?_;exact⟨rfl,S.E⟩
theorem uO(n:Int)(w:World) :
  Calls Tryz.prog 258 #[.i n] w fun e w'=>e = .returned (.bool ((decide (1≤n))&&(decide (n≤3))))∧w=w':=by
 skip;refine akk Tryz.func258 Tryz.ntmps258 fun ac S=>akg fun _ aP=>adr S 1 [] [(2,.bool false)] fun S=>akf<|aP _ _<|akg fun _ fE=>adr S 7 [] [(2,.bool ((decide (1≤n))&&(decide (n≤3))))] fun S=>akf<|fE _ _<|akj S Tryz.results258 ?_;exact⟨rfl,rfl⟩
end Go.Proofs.YtfmkkemfhjkajaaGreatDoor
