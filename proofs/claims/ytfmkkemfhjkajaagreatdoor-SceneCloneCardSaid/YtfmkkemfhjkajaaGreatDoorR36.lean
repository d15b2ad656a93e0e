/- The references that the law NodeCheck calls: the simple tests. -/
import Derived.Test.YtfmkkemfhjkajaaGreatDoorCheck
set_option maxHeartbeats 1600000
set_option maxRecDepth 100000
namespace Go.Proofs.YtfmkkemfhjkajaaGreatDoor
open _root_.Go.Proofs.Tryz
open Go.RowKit
variable{α:Type}{K:Nat}
set_option linter.unusedVariables false
def mG(a b:Int):Bool:=(side a&&side b)&&decide (a*b≤65536)
theorem Yd{x lo hi:Int}(h:(!(decide (lo≤x)&&decide (x≤hi)))=true):((decide (x<lo))||(decide (hi<x)))=true:=by
 simp only[amU,Bool.and_eq_false_iff,amc]at h;simp only[amK,alz]; omega
theorem Ue{x lo hi:Int}(h:(!(decide (lo≤x)&&decide (x≤hi)))=false):((decide (x<lo))||(decide (hi<x)))=false:=by
 simp only[amL,alr,alz]at h;simp only[al0,amc]; omega
theorem Uf{l:List Int}{k:Nat}{any:Bool}(hk:l.length≤k)(hR:nZ l (l.take k)=some any):((any&&(decide ((l.length:Int)≤16)))&&((Int.tmod (l.length:Int) 2)==0))=mg l:=by
 rw[←Oi hk hR,am3,am3,Bool.and_comm (decide _)]
theorem aa2{a b:Int}:(((((decide (1≤a))&&(decide (a≤4096)))&&(decide (1≤b)))&&(decide (b≤4096)))&&(decide (IntKind.i64.wrap (a*b)≤65536)))=mG a b:=by
 unfold mG;cases ha:side a
 ·have:((decide (1≤a))&&(decide (a≤4096)))=false:=ha;rw[this]; rfl
 cases hb:side b
 ·have:((decide (1≤b))&&(decide (b≤4096)))=false:=hb;rw[am3 ((decide (1≤a))&&(decide (a≤4096))),this]; simp
 rw[BN ha hb];have h1:((decide (1≤a))&&(decide (a≤4096)))=true:=ha;have h2:((decide (1≤b))&&(decide (b≤4096)))=true:=hb;rw[am3 ((decide (1≤a))&&(decide (a≤4096))),h1,h2]
theorem Qd{a b:Int}(h:mG a b=true):IntKind.i64.wrap (a*b)=a*b:=by
 unfold mG at h;simp only[alr]at h;exact BN h.1.1 h.1.2
theorem Hw{m:bW}:((!(mG m.w m.h))||((m.l.length:Int) != IntKind.i64.wrap (m.w*m.h)))=((!(mG m.w m.h))||((m.l.length:Int) != (m.w*m.h))):=by
 cases h:mG m.w m.h
 ·rfl
 rw[Qd h]
theorem JR(m:bW):mG m.w m.h=m.size:=by unfold mG bW.size; rw[am3]
theorem aa3{m:bW}(h:((!(mG m.w m.h))||((m.l.length:Int) != (m.w*m.h)))=true):false=m.valid:=by
 unfold bW.valid;rw[←JR];revert h;cases mG m.w m.h<;>simp;intro h h1; omega
theorem Ye{m:bW}(h:((!(mG m.w m.h))||((m.l.length:Int) != (m.w*m.h)))=false)(ha:m.l.all dF.valid=true):true=m.valid:=by
 unfold bW.valid;rw[←JR];revert h;cases mG m.w m.h<;>simp;intro h; exact⟨h,by simpa using ha⟩
theorem Yf{m:bW}(ha:m.l.all dF.valid=false):false=m.valid:=by
 unfold bW.valid;rw[ha]; simp
theorem Dp(n:Int)(w:World) :
  Calls prog 171 #[.i n] w fun e w'=>e = .returned (.bool (((n)==1)||((n)==2)))∧w=w':=by
 skip;refine akN func171 ntmps171 fun ac S=>akJ fun _ aS=>adr S 1 [] [(2,.bool false)] fun S=>akI<|aS _ _<|akJ fun _ fD=>adr S 7 [] [(2,.bool (((n)==1)||((n)==2)))] fun S=>akI<|fD _ _<|akM S results171 ?_;exact⟨rfl,rfl⟩
def aj.pF(nd:aj):Bool:=(((((nd.path.length:Int))==0)&&((nd.aO)==0))&&(((nd.fill.length:Int))==0))&&(((nd.stroke.length:Int))==0)
theorem xP{w:World}{nd:aj}(h:nd.ok w) :
  Calls prog 172 #[nd.v] w fun e w'=>e = .returned (.bool (nd.pF))∧Ext w w':=by
 skip;refine akN func172 ntmps172 fun ac S=>akJ fun _ aS=>akK S 1 nd.cells fun ac u b2 E3 hb4 S=>adr S 1 [] [(2,.bool false)] fun S=>akI<|aS _ _<|akJ fun _ dB=>adr S 22 [.mem 0 33,.mem 0 34,.mem 0 35,.mem 0 42] [(2,.bool ((((((nd.path.length:Int))==0)&&((nd.aO)==0))&&(((nd.fill.length:Int))==0))&&(((nd.stroke.length:Int))==0)))] fun S=>akI<|dB _ _<|akM S results172 ?_;exact⟨rfl,S.E⟩
def aj.lC(nd:aj):Bool:=((((((nd.style.width)==0)&&((nd.style.join)==0))&&((nd.style.cap)==0))&&((nd.style.dX)==0))&&(((nd.style.dash.length:Int))==0))&&((nd.style.phase)==0)
theorem rQ{w:World}{nd:aj}(h:nd.ok w) :
  Calls prog 173 #[nd.v] w fun e w'=>e = .returned (.bool (nd.lC))∧Ext w w':=by
 skip;refine akN func173 ntmps173 fun ac S=>akJ fun _ aS=>akK S 1 nd.cells fun ac u b2 E3 hb4 S=>adr S 1 [] [(2,.bool false)] fun S=>akI<|aS _ _<|akJ fun _ dB=>adr S 2 [.mem 0 36] [(5,nd.style.v)] fun S=>akK S 3 [.i 0,.i 0,.i 0,.i 0,.slice none 0 0,.i 0] fun ac u b6 E7 hb8 S=>akO S 0 (off:=0) (cs:=nd.style.cells) rfl fun u C9 S=>akI<|dB _ _<|akJ fun _ fE=>adr S 30 [.mem 0 0,.mem 0 1,.mem 0 2,.mem 0 3,.mem 0 4,.mem 0 5] [(2,.bool (((((((nd.style.width)==0)&&((nd.style.join)==0))&&((nd.style.cap)==0))&&((nd.style.dX)==0))&&(((nd.style.dash.length:Int))==0))&&((nd.style.phase)==0)))] fun S=>akI<|fE _ _<|akM S results173 ?_;exact⟨rfl,S.E⟩
def aj.qM(nd:aj):Bool:=((((nd.img.w)==0)&&((nd.img.h)==0))&&(((nd.img.l.length:Int))==0))&&((nd.bP)==0)
theorem xQ{w:World}{nd:aj}(h:nd.ok w) :
  Calls prog 174 #[nd.v] w fun e w'=>e = .returned (.bool (nd.qM))∧Ext w w':=by
 skip;refine akN func174 ntmps174 fun ac S=>akJ fun _ aS=>akK S 1 nd.cells fun ac u b2 E3 hb4 S=>adr S 1 [] [(2,.bool false)] fun S=>akI<|aS _ _<|akJ fun _ dB=>adr S 23 [.mem 0 43,.mem 0 44,.mem 0 45,.mem 0 46] [(2,.bool (((((nd.img.w)==0)&&((nd.img.h)==0))&&(((nd.img.l.length:Int))==0))&&((nd.bP)==0)))] fun S=>akI<|dB _ _<|akM S results174 ?_;exact⟨rfl,S.E⟩
def aj.qN(nd:aj):Bool:=(((((nd.dH.toNat:Int))==0)&&((nd.blend)==0))&&(!nd.isolated))&&(!nd.bM)
theorem xR{w:World}{nd:aj}(h:nd.ok w) :
  Calls prog 175 #[nd.v] w fun e w'=>e = .returned (.bool (nd.qN))∧Ext w w':=by
 skip;refine akN func175 ntmps175 fun ac S=>akJ fun _ aS=>akK S 1 nd.cells fun ac u b2 E3 hb4 S=>adr S 1 [] [(2,.bool false)] fun S=>akI<|aS _ _<|akJ fun _ dB=>adr S 19 [.mem 0 29,.mem 0 30,.mem 0 31,.mem 0 32] [(2,.bool ((((((nd.dH.toNat:Int))==0)&&((nd.blend)==0))&&(!nd.isolated))&&(!nd.bM)))] fun S=>akI<|dB _ _<|akM S results175 ?_;exact⟨rfl,S.E⟩
def aj.qL(nd:aj):Bool:=cond (((((nd.clip.length:Int))==0)&&((nd.aJ) != 0))||((decide (0<(nd.clip.length:Int)))&&(!((nd.aJ==1)||(nd.aJ==2))))) (false) (cond ((nd.kind)==1) ((nd.pF&&nd.lC)&&nd.qM) (cond ((nd.kind)==2) (nd.qN&&nd.qM) ((nd.qN&&nd.pF)&&nd.lC)))
theorem Tz{w:World}{nd:aj}(h:nd.ok w) :
  Calls prog 131 #[nd.v] w fun e w'=>e = .returned (.bool nd.qL)∧Ext w w':=by
 skip;refine akN func131 ntmps131 fun ac S=>akJ fun _ aS=>akK S 1 nd.cells fun ac u b2 E3 hb4 S=>adr S 1 [] [(2,.bool false)] fun S=>akI<|aS _ _<|ak6 fun _ dB=>akJ fun _ je=>akX S 21 [.mem 0 27,.mem 0 28,.mem 0 27,.mem 0 28] [(_,_,((!((((nd.clip.length:Int))==0)&&((nd.aJ) != 0)))&&(decide (0<(nd.clip.length:Int)))),.bool ((nd.aJ==1)||(nd.aJ==2)))] [(23,.bool (((((nd.clip.length:Int))==0)&&((nd.aJ) != 0))||((decide (0<(nd.clip.length:Int)))&&(!((nd.aJ==1)||(nd.aJ==2))))))] ⟨fun u hC g=>akZ (Dp nd.aJ _),trivial⟩ fun ac u E7 S=>akI (je _ _ ?_);refine akL S (fun hc8=>?_) (fun hc8=>?_)
 ·refine akJ fun _ iq=>adr S 1 [] [(2,.bool false)] fun S=>akI<|iq _ _<|ala ?_;have p0:=hc8;refine akP S results131 ?_;exact⟨aB (by unfold aj.qL; simp only[p0,cond_true]),S.E⟩
 refine ak7<|dB _ _<|ak6 fun _ fE=>akJ fun _ dn=>adr S 2 [.mem 0 1] [(25,.i nd.kind)] fun S=>akI<|dn _ _<|ak8<|akJ fun _ cO=>adr S 2 [] [(26,.bool ((nd.kind)==1))] fun S=>akI (cO _ _ ?_);refine akL S (fun hc13=>?_) (fun hc13=>?_)
 ·refine akJ fun _ fH=>adr S 1 [.mem 0 0] [(28,nd.v)] fun S=>akQ S 29 (xP (h.below S.E)) fun ac u NQ S=>akX S 9 [.mem 0 0,.mem 0 0] [(_,_,nd.pF,.bool nd.lC),(_,_,(nd.pF&&nd.lC),.bool nd.qM)] [(2,.bool ((nd.pF&&nd.lC)&&nd.qM))] ⟨fun u hC g=>rQ (h.below (Ext.trans' S.E hC)),fun u hC g=>xQ (h.below (Ext.trans' S.E hC)),trivial⟩ fun ac u Qx S=>akI<|fH _ _<|ala ?_;have p0:=hc8;have p1:=hc13;refine akP S results131 ?_;exact⟨aB (by unfold aj.qL; simp only[p0,p1,cond_true,cond_false]),S.E⟩
 refine akJ fun _ gJ=>adr S 2 [] [(38,.bool ((nd.kind)==2))] fun S=>akI (gJ _ _ ?_);refine akL S (fun hc18=>?_) (fun hc18=>?_)
 ·refine akJ fun _ jf=>adr S 1 [.mem 0 0] [(40,nd.v)] fun S=>akQ S 41 (xR (h.below S.E)) fun ac u zk S=>akX S 5 [.mem 0 0] [(_,_,nd.qN,.bool nd.qM)] [(2,.bool (nd.qN&&nd.qM))] ⟨fun u hC g=>xQ (h.below (Ext.trans' S.E hC)),trivial⟩ fun ac u BA S=>akI<|jf _ _<|ala ?_;have p0:=hc8;have p1:=hc13;have p2:=hc18;refine akP S results131 ?_;exact⟨aB (by unfold aj.qL; simp only[p0,p1,p2,cond_true,cond_false]),S.E⟩
 refine ak7<|fE _ _<|akJ fun _ jJ=>adr S 1 [.mem 0 0] [(46,nd.v)] fun S=>akQ S 47 (xR (h.below S.E)) fun ac u CQ S=>akX S 9 [.mem 0 0,.mem 0 0] [(_,_,nd.qN,.bool nd.pF),(_,_,(nd.qN&&nd.pF),.bool nd.lC)] [(2,.bool ((nd.qN&&nd.pF)&&nd.lC))] ⟨fun u hC g=>xP (h.below (Ext.trans' S.E hC)),fun u hC g=>rQ (h.below (Ext.trans' S.E hC)),trivial⟩ fun ac u S9 S=>akI<|jJ _ _<|ala ?_;have p0:=hc8;have p1:=hc13;have p2:=hc18;refine akP S results131 ?_;exact⟨aB (by unfold aj.qL; simp only[p0,p1,p2,cond_false]),S.E⟩
theorem Po(n:Int)(w:World) :
  Calls prog 133 #[.i n] w fun e w'=>e = .returned (.bool ((decide (1≤n))&&(decide (n≤13))))∧w=w':=by
 skip;refine akN func133 ntmps133 fun ac S=>akJ fun _ aS=>adr S 1 [] [(2,.bool false)] fun S=>akI<|aS _ _<|akJ fun _ fD=>adr S 7 [] [(2,.bool ((decide (1≤n))&&(decide (n≤13))))] fun S=>akI<|fD _ _<|akM S results133 ?_;exact⟨rfl,rfl⟩
def dF.acG(p:dF):Bool:=((decide ((p.r.toNat:Int)≤(p.a.toNat:Int)))&&(decide ((p.g.toNat:Int)≤(p.a.toNat:Int))))&&(decide ((p.b.toNat:Int)≤(p.a.toNat:Int)))
theorem LZ(p:dF)(w:World) :
  Calls prog 179 #[.agg #[.int .u8 (p.r.toNat:Int),.int .u8 (p.g.toNat:Int),.int .u8 (p.b.toNat:Int),.int .u8 (p.a.toNat:Int)]] w fun e w'=>e = .returned (.bool (p.acG))∧Ext w w':=by
 skip;refine akN func179 ntmps179 fun ac S=>akJ fun _ aS=>akK S 1 p.cells fun ac u b2 E3 hb4 S=>adr S 1 [] [(2,.bool false)] fun S=>akI<|aS _ _<|akJ fun _ dB=>adr S 20 [.mem 0 0,.mem 0 3,.mem 0 1,.mem 0 3,.mem 0 2,.mem 0 3] [(2,.bool (((decide ((p.r.toNat:Int)≤(p.a.toNat:Int)))&&(decide ((p.g.toNat:Int)≤(p.a.toNat:Int))))&&(decide ((p.b.toNat:Int)≤(p.a.toNat:Int)))))] fun S=>akI<|dB _ _<|akM S results179 ?_;exact⟨rfl,S.E⟩
theorem Hy(p:dF):p.acG=p.valid:=by
 unfold dF.acG dF.valid;simp only[UInt8.le_iff_toNat_le,Int.ofNat_le,am3]
theorem Qe(a b:Int)(w:World) :
  Calls prog 178 #[.i a,.i b] w fun e w'=>e = .returned (.bool (mG a b))∧w=w':=by
 skip;refine akN func178 ntmps178 fun ac S=>akJ fun _ aS=>adr S 1 [] [(4,.bool false)] fun S=>akI<|aS _ _<|akJ fun _ fD=>adr S 21 [] [(4,.bool (((((decide (1≤a))&&(decide (a≤4096)))&&(decide (1≤b)))&&(decide (b≤4096)))&&(decide ((IntKind.i64.wrap (a*b))≤65536))))] fun S=>akI<|fD _ _<|akM S results178 ?_;exact⟨aB (by exact aa2),rfl⟩
theorem AZ{w:World}{m:bW}(h:m.ok w) :
  Calls prog 134 #[m.v] w fun e w'=>e = .returned (.bool m.valid)∧Ext w w':=by
 obtain⟨a,cap,hs⟩:=h.2.2.shape;unfold bW.v;have hq:=h.2.2;rw[hs];rw[hs]at hq;have hmax:m.l.length≤9223372036854775807:=h.2.2.len;refine akN func134 ntmps134 fun ac S=>akJ fun _ aS=>akK S 1 [.i m.w,.i m.h,.slice a m.l.length cap] fun ac u b2 E3 hb4 S=>adr S 1 [] [(2,.bool false)] fun S=>akI<|aS _ _<|ak6 fun _ dB=>akJ fun _ je=>adr S 4 [.mem 0 0,.mem 0 1] [(5,.i m.w),(7,.i m.h)] fun S=>ak4 S 8 (Qe m.w m.h _) fun ac S=>adr S 12 [.mem 0 2,.mem 0 0,.mem 0 1] [(20,.bool ((!(mG m.w m.h))||(((m.l.length:Int)) != (IntKind.i64.wrap (m.w*m.h)))))] fun S=>akI (je _ _ ?_);refine akL S (fun kW=>?_) (fun kW=>?_)
 ·refine akJ fun _ dP=>adr S 1 [] [(2,.bool false)] fun S=>akI<|dP _ _<|akM S results134 ?_;exact⟨aB (aa3 (Hw▸kW)),S.E⟩
 refine ak7<|dB _ _<|ak6 fun _ iq=>akJ fun _ fE=>adr S 1 [] [(3,.i 0)] fun S=>akI<|fE _ _<|ak8 ?_;refine alC (ι:=Nat) (fun p a' w'=>p≤m.l.length∧((m.l.take p).all dF.valid=true)∧Sx.St w a' w' 35 [(0,.agg #[.i m.w,.i m.h,.slice a m.l.length cap]),(1,.pointer (some ⟨b2,0,none⟩)),(2,.bool false),(3,.i p)] [(b2,[.i m.w,.i m.h,.slice a m.l.length cap])] []) (fun p=>m.l.length-p) (0) ⟨alg _,rfl,S.sn⟩ ?_;rintro k ac u hI;try dsimp only at hI
 obtain⟨hk,hR,S⟩:=hI;refine ak6 fun _ dn=>akJ fun _ cO=>adr S 5 [.mem 0 2] [(25,.bool ((k:Int)<(m.l.length:Int)))] fun S=>akI (cO _ _ ?_);refine akL S (fun hc13=>?_) (fun hc13=>?_)
 ·refine ak7<|dn _ _<|ak6 fun _ fH=>ak8<|akJ (fun _ fJ=>?_);have IV:k<m.l.length:=by have:=alj hc13; omega
  obtain⟨b16,o17,rfl,x22,XY,Np,aeO⟩:=als hq (fun _=>rfl) (k) IV;have S:=S.view0 Np aeO;refine adr S 5 [.mem 0 2,.idx k m.l.length,.mem 1 0] [(32,.agg x22.cells.toArray)] (hk:=⟨IV,trivial⟩) fun S=>akQ S 33 (LZ x22 _) fun ac u S9 S=>adr S 1 [] [(34,.bool (!x22.acG))] fun S=>akI (fJ _ _ ?_);refine akL S (fun hc25=>?_) (fun hc25=>?_)
  ·refine akJ fun _ jZ=>adr S 1 [] [(2,.bool false)] fun S=>akI<|jZ _ _<|akM S results134 ?_;exact⟨aB (Yf (vg IV (by rw[XY]; simpa[Hy]using hc25))),S.E⟩
  refine ak7<|fH _ _<|alc<|adr S 3 [.re 27 (.i (IntKind.i64.wrap ((k:Int)+1))) (.i (k+1:Nat))] [(3,.i (k+1:Nat))] (hk:=⟨akV (by omega),trivial⟩) fun S=>akI ?_;show ∃i',_∧_;exact⟨(k+1),⟨by omega,(jW IV hR (by rw[XY]; simpa[Hy]using hc25)),S.sn⟩,by show _-_<_-_; omega⟩
 refine alk<|iq _ _<|akJ fun _ kL=>adr S 1 [] [(2,.bool true)] fun S=>akI<|kL _ _<|akM S results134 ?_;exact⟨aB (Ye (Hw▸kW) (mY (by have:=alo hc13; omega) hR)),S.E⟩
theorem jY(n lo hi:Int)(w:World) :
  Calls prog 210 #[.i n,.i lo,.i hi] w fun e w'=>e = .returned (.bool ((decide (lo≤n))&&(decide (n≤hi))))∧w=w':=by
 skip;refine akN func210 ntmps210 fun ac S=>akJ fun _ aS=>adr S 1 [] [(6,.bool false)] fun S=>akI<|aS _ _<|akJ fun _ fD=>adr S 9 [] [(6,.bool ((decide (lo≤n))&&(decide (n≤hi))))] fun S=>akI<|fD _ _<|akM S results210 ?_;exact⟨rfl,rfl⟩
theorem L6(n:Int)(w:World) :
  Calls prog 209 #[.i n] w fun e w'=>e = .returned (.bool ((decide (1≤n)&&decide (n≤16384))))∧w=w':=by
 skip;refine akN func209 ntmps209 fun ac S=>akJ fun _ aS=>adr S 1 [] [(2,.bool false)] fun S=>akI<|aS _ _<|akJ fun _ fD=>adr S 1 [] [(3,.i n)] fun S=>ak4 S 4 (jY n 1 16384 _) fun ac S=>adr S 1 [] [(2,.bool (decide (1≤n)&&decide (n≤16384)))] fun S=>akI<|fD _ _<|akM S results209 ?_;exact⟨rfl,rfl⟩
theorem IY{w:World}{v:Value}{l:List Int}(h:eF yL w v l) :
  Calls prog 211 #[v] w fun e w'=>e = .returned (.bool (mg l))∧Ext w w':=by
 obtain⟨a,cap,rfl⟩:=(dR h).shape;have hmax:l.length≤9223372036854775807:=(dR h).len;refine akN func211 ntmps211 fun ac S=>akJ fun _ aS=>adr S 1 [] [(2,.bool false)] fun S=>akI<|aS _ _<|akJ fun _ fD=>adr S 4 [] [(3,.bool (((l.length:Int))==0))] fun S=>akI<|fD _ _<|ak6 fun _ iD=>akJ fun _ lI=>adr S 1 [] [(4,.i 0)] fun S=>akI<|lI _ _<|ak8 ?_;refine alC (ι:=Nat×Bool) (fun p a' w'=>p.1≤l.length∧(nZ l (l.take p.1)=some p.2)∧Sx.St w a' w' 40 [(0,.slice a l.length cap),(2,.bool false),(3,.bool p.2),(4,.i p.1)] [] []) (fun p=>l.length-p.1) (0,((l.length:Int)==0)) ⟨alg _,Jl l,S.sn⟩ ?_;rintro⟨k,any⟩ ac u hI;try dsimp only at hI
 obtain⟨hk,hR,S⟩:=hI;refine ak6 fun _ dB=>akJ fun _ je=>adr S 4 [] [(11,.bool ((k:Int)<(l.length:Int)))] fun S=>akI (je _ _ ?_);refine akL S (fun kW=>?_) (fun kW=>?_)
 ·refine ak7<|dB _ _<|ak6 fun _ dP=>ak8<|ak6 fun _ iq=>akJ (fun _ fE=>?_);have aa4:k<l.length:=by have:=alj kW; omega
  obtain⟨b11,o12,rfl,x17,aeY,SQ,ai3⟩:=als (dR h) (fun _=>rfl) (k) aa4;have S:=S.view0 SQ ai3;refine adr S 4 [.idx k l.length,.mem 0 0] [(17,.i x17)] (hk:=⟨aa4,trivial⟩) fun S=>ak4 S 18 (jY x17 0 1048576 _) fun ac S=>adr S 1 [] [(19,.bool (!(decide (0≤x17)&&decide (x17≤1048576))))] fun S=>akI (fE _ _ ?_);refine akL S (fun hc19=>?_) (fun hc19=>?_)
  ·refine akJ fun _ iT=>adr S 1 [] [(2,.bool false)] fun S=>akI<|iT _ _<|akM S results211 ?_;exact⟨aB (Oh aa4 hR (by rw[aeY]; exact Yd hc19)),S.E⟩
  refine ak7<|iq _ _<|alc<|adr S 9 [.idx k l.length,.mem 0 0] [(3,.bool (any||(decide (0<x17))))] (hk:=⟨aa4,trivial⟩) fun S=>akI<|dP _ _<|alc<|adr S 3 [.re 13 (.i (IntKind.i64.wrap ((k:Int)+1))) (.i (k+1:Nat))] [(4,.i (k+1:Nat))] (hk:=⟨akV (by omega),trivial⟩) fun S=>akI ?_;show ∃i',_∧_;exact⟨((k+1),any||(decide (0<x17))),⟨by omega,(by rw[←aeY]; exact Jm aa4 hR (by rw[aeY]; exact Ue hc19)),S.sn⟩,by show _-_<_-_; omega⟩
 refine alk<|iD _ _<|akJ fun _ jI=>adr S 13 [] [(2,.bool ((any&&(decide ((l.length:Int)≤16)))&&(((Int.tmod (l.length:Int) 2))==0)))] fun S=>akI<|jI _ _<|akM S results211 ?_;exact⟨aB (Uf (by have:=alo kW; omega) hR),S.E⟩
theorem VO{p:aX}{v:Bool}(h:(v=false∧(((!(decide (1≤p.width)&&decide (p.width≤16384)))||(!(decide (1≤p.join)&&decide (p.join≤3))))||(!(decide (3≤p.cap)&&decide (p.cap≤5))))=true)∨(v=(((decide (256≤p.dX)&&decide (p.dX≤65536))&&(mg p.dash))&&(decide (0≤p.phase)&&decide (p.phase≤1048576)))∧(((!(decide (1≤p.width)&&decide (p.width≤16384)))||(!(decide (1≤p.join)&&decide (p.join≤3))))||(!(decide (3≤p.cap)&&decide (p.cap≤5))))=false)):v=p.valid:=by
 rw[al4];unfold aX.valid;generalize mg p.dash=dd at h ⊢;rcases h with ⟨rfl,h⟩ | ⟨rfl,h⟩<;>cases dd<;>simp only[amK,alr,amU,al0,amL,alz,Bool.and_eq_false_iff,amc,alu,ang,and_false,false_and,and_true,false_iff]at h ⊢ <;> omega
theorem Ll{w:World}{p:aX}(h:p.ok w) :
  Calls prog 176 #[p.v] w fun e w'=>e = .returned (.bool p.valid)∧Ext w w':=by
 skip;refine akN func176 ntmps176 fun ac S=>akJ fun _ aS=>akK S 1 p.cells fun ac u b2 E3 hb4 S=>adr S 1 [] [(2,.bool false)] fun S=>akI<|aS _ _<|ak6 fun _ dB=>akJ fun _ je=>adr S 2 [.mem 0 0] [(4,.i p.width)] fun S=>ak4 S 5 (L6 p.width _) fun ac S=>akX S 13 [.mem 0 1,.mem 0 2] [(_,_,(!(!(decide (1≤p.width)&&decide (p.width≤16384)))),.bool (decide (1≤p.join)&&decide (p.join≤3))),(_,_,(!((!(decide (1≤p.width)&&decide (p.width≤16384)))||(!(decide (1≤p.join)&&decide (p.join≤3))))),.bool (decide (3≤p.cap)&&decide (p.cap≤5)))] [(18,.bool (((!(decide (1≤p.width)&&decide (p.width≤16384)))||(!(decide (1≤p.join)&&decide (p.join≤3))))||(!(decide (3≤p.cap)&&decide (p.cap≤5)))))] ⟨fun u hC g=>akZ (jY p.join 1 3 _),fun u hC g=>akZ (jY p.cap 3 5 _),trivial⟩ fun ac u E7 S=>akI (je _ _ ?_);refine akL S (fun hc8=>?_) (fun hc8=>?_)
 ·refine akJ fun _ iq=>adr S 1 [] [(2,.bool false)] fun S=>akI<|iq _ _<|ala ?_;have p0:=hc8;refine akP S results176 ?_;exact⟨aB (VO (.inl ⟨rfl,p0⟩)),S.E⟩
 refine ak7<|dB _ _<|akJ fun _ fE=>adr S 2 [.mem 0 3] [(20,.i p.dX)] fun S=>ak4 S 21 (jY p.dX 256 65536 _) fun ac S=>akX S 11 [.mem 0 4,.mem 0 5] [(_,_,(decide (256≤p.dX)&&decide (p.dX≤65536)),.bool (mg p.dash)),(_,_,((decide (256≤p.dX)&&decide (p.dX≤65536))&&(mg p.dash)),.bool (decide (0≤p.phase)&&decide (p.phase≤1048576)))] [(2,.bool (((decide (256≤p.dX)&&decide (p.dX≤65536))&&(mg p.dash))&&(decide (0≤p.phase)&&decide (p.phase≤1048576))))] ⟨fun u hC g=>IY (h.2.2.2.2.1.below (Ext.trans' S.E hC)),fun u hC g=>akZ (jY p.phase 0 1048576 _),trivial⟩ fun ac u wM S=>akI<|fE _ _<|ala ?_;have p0:=hc8;refine akP S results176 ?_;exact⟨aB (VO (.inr ⟨rfl,p0⟩)),S.E⟩
def oI(x y:Int):Bool:=(((decide (-1048576≤x))&&(decide (x≤1048576)))&&(decide (-1048576≤y)))&&(decide (y≤1048576))
theorem lu(x y:Int)(w:World) :
  Calls prog 238 #[.agg #[.i x,.i y]] w fun e w'=>e = .returned (.bool (oI x y))∧Ext w w':=by
 skip;refine akN func238 ntmps238 fun ac S=>akJ fun _ aS=>akK S 1 [.i x,.i y] fun ac u b2 E3 hb4 S=>adr S 1 [] [(2,.bool false)] fun S=>akI<|aS _ _<|akJ fun _ dB=>adr S 19 [.mem 0 0,.mem 0 0,.mem 0 1,.mem 0 1] [(2,.bool ((((decide (-1048576≤x))&&(decide (x≤1048576)))&&(decide (-1048576≤y)))&&(decide (y≤1048576))))] fun S=>akI<|dB _ _<|akM S results238 ?_;exact⟨rfl,S.E⟩
theorem ug(n:Int)(w:World) :
  Calls prog 258 #[.i n] w fun e w'=>e = .returned (.bool ((decide (1≤n))&&(decide (n≤3))))∧w=w':=by
 skip;refine akN func258 ntmps258 fun ac S=>akJ fun _ aS=>adr S 1 [] [(2,.bool false)] fun S=>akI<|aS _ _<|akJ fun _ fD=>adr S 7 [] [(2,.bool ((decide (1≤n))&&(decide (n≤3))))] fun S=>akI<|fD _ _<|akM S results258 ?_;exact⟨rfl,rfl⟩
end Go.Proofs.YtfmkkemfhjkajaaGreatDoor
