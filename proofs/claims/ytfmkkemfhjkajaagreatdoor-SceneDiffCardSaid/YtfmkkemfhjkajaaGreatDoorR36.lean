/- The references that the law NodeCheck calls: the simple tests. -/
import Derived.Test.YtfmkkemfhjkajaaGreatDoorPk18
set_option maxHeartbeats 1600000
set_option maxRecDepth 100000
namespace Go.Proofs.YtfmkkemfhjkajaaGreatDoor
open _root_.Go.Proofs.Tryz
open Go.RowKit
variable{α:Type}{K:Nat}
set_option linter.unusedVariables false
def nR(a b:Int):Bool:=(side a&&side b)&&decide (a*b≤65536)
theorem Zf{x lo hi:Int}(h:(!(decide (lo≤x)&&decide (x≤hi)))=true):((decide (x<lo))||(decide (hi<x)))=true:=by
 simp only[apc,Bool.and_eq_false_iff,aoC]at h;simp only[ao5,anT]; omega
theorem Vb{x lo hi:Int}(h:(!(decide (lo≤x)&&decide (x≤hi)))=false):((decide (x<lo))||(decide (hi<x)))=false:=by
 simp only[ao6,anM,anT]at h;simp only[aom,aoC]; omega
theorem Vd{l:List Int}{k:Nat}{any:Bool}(hk:l.length≤k)(hR:pF l (l.take k)=some any):((any&&(decide ((l.length:Int)≤16)))&&((Int.tmod (l.length:Int) 2)==0))=nN l:=by
 rw[←Pm hk hR,apz,apz,Bool.and_comm (decide _)]
theorem aci{a b:Int}:(((((decide (1≤a))&&(decide (a≤4096)))&&(decide (1≤b)))&&(decide (b≤4096)))&&(decide (IntKind.i64.wrap (a*b)≤65536)))=nR a b:=by
 unfold nR;cases ha:side a
 ·have:((decide (1≤a))&&(decide (a≤4096)))=false:=ha;rw[this]; rfl
 cases hb:side b
 ·have:((decide (1≤b))&&(decide (b≤4096)))=false:=hb;rw[apz ((decide (1≤a))&&(decide (a≤4096))),this]; simp
 rw[DC ha hb];have h1:((decide (1≤a))&&(decide (a≤4096)))=true:=ha;have h2:((decide (1≤b))&&(decide (b≤4096)))=true:=hb;rw[apz ((decide (1≤a))&&(decide (a≤4096))),h1,h2]
theorem Rj{a b:Int}(h:nR a b=true):IntKind.i64.wrap (a*b)=a*b:=by
 unfold nR at h;simp only[anM]at h;exact DC h.1.1 h.1.2
theorem IW{m:cO}:((!(nR m.w m.h))||((m.l.length:Int) != IntKind.i64.wrap (m.w*m.h)))=((!(nR m.w m.h))||((m.l.length:Int) != (m.w*m.h))):=by
 cases h:nR m.w m.h
 ·rfl
 rw[Rj h]
theorem Le(m:cO):nR m.w m.h=m.size:=by unfold nR cO.size; rw[apz]
theorem acj{m:cO}(h:((!(nR m.w m.h))||((m.l.length:Int) != (m.w*m.h)))=true):false=m.valid:=by
 unfold cO.valid;rw[←Le];revert h;cases nR m.w m.h<;>simp;intro h h1; omega
theorem Zg{m:cO}(h:((!(nR m.w m.h))||((m.l.length:Int) != (m.w*m.h)))=false)(ha:m.l.all dO.valid=true):true=m.valid:=by
 unfold cO.valid;rw[←Le];revert h;cases nR m.w m.h<;>simp;intro h; exact⟨h,by simpa using ha⟩
theorem Zh{m:cO}(ha:m.l.all dO.valid=false):false=m.valid:=by
 unfold cO.valid;rw[ha]; simp
theorem Eu(n:Int)(w:World) :
  Calls prog 171 #[.i n] w fun e w'=>e = .returned (.bool (((n)==1)||((n)==2)))∧w=w':=by
 skip;refine am0 func171 ntmps171 fun ac S=>amW fun _ aO=>adr S 1 [] [(2,.bool false)] fun S=>amV<|aO _ _<|amW fun _ eG=>adr S 7 [] [(2,.bool (((n)==1)||((n)==2)))] fun S=>amV<|eG _ _<|amZ S results171 ?_;exact⟨rfl,rfl⟩
def aj.qN(nd:aj):Bool:=(((((nd.path.length:Int))==0)&&((nd.aV)==0))&&(((nd.fill.length:Int))==0))&&(((nd.stroke.length:Int))==0)
theorem yS{w:World}{nd:aj}(h:nd.ok w) :
  Calls prog 172 #[nd.v] w fun e w'=>e = .returned (.bool (nd.qN))∧Ext w w':=by
 skip;refine am0 func172 ntmps172 fun ac S=>amW fun _ aO=>amY S 1 nd.cells fun ac u b2 E3 hb4 S=>adr S 1 [] [(2,.bool false)] fun S=>amV<|aO _ _<|amW fun _ dA=>adr S 22 [.mem 0 33,.mem 0 34,.mem 0 35,.mem 0 42] [(2,.bool ((((((nd.path.length:Int))==0)&&((nd.aV)==0))&&(((nd.fill.length:Int))==0))&&(((nd.stroke.length:Int))==0)))] fun S=>amV<|dA _ _<|amZ S results172 ?_;exact⟨rfl,S.E⟩
def aj.lZ(nd:aj):Bool:=((((((nd.style.width)==0)&&((nd.style.join)==0))&&((nd.style.cap)==0))&&((nd.style.eF)==0))&&(((nd.style.dash.length:Int))==0))&&((nd.style.phase)==0)
theorem ug{w:World}{nd:aj}(h:nd.ok w) :
  Calls prog 173 #[nd.v] w fun e w'=>e = .returned (.bool (nd.lZ))∧Ext w w':=by
 skip;refine am0 func173 ntmps173 fun ac S=>amW fun _ aO=>amY S 1 nd.cells fun ac u b2 E3 hb4 S=>adr S 1 [] [(2,.bool false)] fun S=>amV<|aO _ _<|amW fun _ dA=>adr S 2 [.mem 0 36] [(5,nd.style.v)] fun S=>amY S 3 [.i 0,.i 0,.i 0,.i 0,.slice none 0 0,.i 0] fun ac u b6 E7 hb8 S=>am1 S 0 (off:=0) (cs:=nd.style.cells) rfl fun u C9 S=>amV<|dA _ _<|amW fun _ fE=>adr S 30 [.mem 0 0,.mem 0 1,.mem 0 2,.mem 0 3,.mem 0 4,.mem 0 5] [(2,.bool (((((((nd.style.width)==0)&&((nd.style.join)==0))&&((nd.style.cap)==0))&&((nd.style.eF)==0))&&(((nd.style.dash.length:Int))==0))&&((nd.style.phase)==0)))] fun S=>amV<|fE _ _<|amZ S results173 ?_;exact⟨rfl,S.E⟩
def aj.sG(nd:aj):Bool:=((((nd.img.w)==0)&&((nd.img.h)==0))&&(((nd.img.l.length:Int))==0))&&((nd.bY)==0)
theorem yT{w:World}{nd:aj}(h:nd.ok w) :
  Calls prog 174 #[nd.v] w fun e w'=>e = .returned (.bool (nd.sG))∧Ext w w':=by
 skip;refine am0 func174 ntmps174 fun ac S=>amW fun _ aO=>amY S 1 nd.cells fun ac u b2 E3 hb4 S=>adr S 1 [] [(2,.bool false)] fun S=>amV<|aO _ _<|amW fun _ dA=>adr S 23 [.mem 0 43,.mem 0 44,.mem 0 45,.mem 0 46] [(2,.bool (((((nd.img.w)==0)&&((nd.img.h)==0))&&(((nd.img.l.length:Int))==0))&&((nd.bY)==0)))] fun S=>amV<|dA _ _<|amZ S results174 ?_;exact⟨rfl,S.E⟩
def aj.sH(nd:aj):Bool:=(((((nd.dZ.toNat:Int))==0)&&((nd.blend)==0))&&(!nd.isolated))&&(!nd.dG)
theorem yU{w:World}{nd:aj}(h:nd.ok w) :
  Calls prog 175 #[nd.v] w fun e w'=>e = .returned (.bool (nd.sH))∧Ext w w':=by
 skip;refine am0 func175 ntmps175 fun ac S=>amW fun _ aO=>amY S 1 nd.cells fun ac u b2 E3 hb4 S=>adr S 1 [] [(2,.bool false)] fun S=>amV<|aO _ _<|amW fun _ dA=>adr S 19 [.mem 0 29,.mem 0 30,.mem 0 31,.mem 0 32] [(2,.bool ((((((nd.dZ.toNat:Int))==0)&&((nd.blend)==0))&&(!nd.isolated))&&(!nd.dG)))] fun S=>amV<|dA _ _<|amZ S results175 ?_;exact⟨rfl,S.E⟩
def aj.sF(nd:aj):Bool:=cond (((((nd.clip.length:Int))==0)&&((nd.aK) != 0))||((decide (0<(nd.clip.length:Int)))&&(!((nd.aK==1)||(nd.aK==2))))) (false) (cond ((nd.kind)==1) ((nd.qN&&nd.lZ)&&nd.sG) (cond ((nd.kind)==2) (nd.sH&&nd.sG) ((nd.sH&&nd.qN)&&nd.lZ)))
theorem UH{w:World}{nd:aj}(h:nd.ok w) :
  Calls prog 131 #[nd.v] w fun e w'=>e = .returned (.bool nd.sF)∧Ext w w':=by
 skip;refine am0 func131 ntmps131 fun ac S=>amW fun _ aO=>amY S 1 nd.cells fun ac u b2 E3 hb4 S=>adr S 1 [] [(2,.bool false)] fun S=>amV<|aO _ _<|anj fun _ dA=>amW fun _ iQ=>am9 S 21 [.mem 0 27,.mem 0 28,.mem 0 27,.mem 0 28] [(_,_,((!((((nd.clip.length:Int))==0)&&((nd.aK) != 0)))&&(decide (0<(nd.clip.length:Int)))),.bool ((nd.aK==1)||(nd.aK==2)))] [(23,.bool (((((nd.clip.length:Int))==0)&&((nd.aK) != 0))||((decide (0<(nd.clip.length:Int)))&&(!((nd.aK==1)||(nd.aK==2))))))] ⟨fun u hC g=>anc (Eu nd.aK _),trivial⟩ fun ac u E7 S=>amV (iQ _ _ ?_);refine amX S (fun hc8=>?_) (fun hc8=>?_)
 ·refine amW fun _ gZ=>adr S 1 [] [(2,.bool false)] fun S=>amV<|gZ _ _<|anr ?_;have p0:=hc8;refine am2 S results131 ?_;exact⟨aB (by unfold aj.sF; simp only[p0,cond_true]),S.E⟩
 refine ano<|dA _ _<|anj fun _ fE=>amW fun _ bW=>adr S 2 [.mem 0 1] [(25,.i nd.kind)] fun S=>amV<|bW _ _<|anp<|amW fun _ cZ=>adr S 2 [] [(26,.bool ((nd.kind)==1))] fun S=>amV (cZ _ _ ?_);refine amX S (fun hc13=>?_) (fun hc13=>?_)
 ·refine amW fun _ gU=>adr S 1 [.mem 0 0] [(28,nd.v)] fun S=>am3 S 29 (yS (h.below S.E)) fun ac u TU S=>am9 S 9 [.mem 0 0,.mem 0 0] [(_,_,nd.qN,.bool nd.lZ),(_,_,(nd.qN&&nd.lZ),.bool nd.sG)] [(2,.bool ((nd.qN&&nd.lZ)&&nd.sG))] ⟨fun u hC g=>ug (h.below (Ext.trans' S.E hC)),fun u hC g=>yT (h.below (Ext.trans' S.E hC)),trivial⟩ fun ac u Oq S=>amV<|gU _ _<|anr ?_;have p0:=hc8;have p1:=hc13;refine am2 S results131 ?_;exact⟨aB (by unfold aj.sF; simp only[p0,p1,cond_true,cond_false]),S.E⟩
 refine amW fun _ iD=>adr S 2 [] [(38,.bool ((nd.kind)==2))] fun S=>amV (iD _ _ ?_);refine amX S (fun hc18=>?_) (fun hc18=>?_)
 ·refine amW fun _ ji=>adr S 1 [.mem 0 0] [(40,nd.v)] fun S=>am3 S 41 (yU (h.below S.E)) fun ac u Eh S=>am9 S 5 [.mem 0 0] [(_,_,nd.sH,.bool nd.sG)] [(2,.bool (nd.sH&&nd.sG))] ⟨fun u hC g=>yT (h.below (Ext.trans' S.E hC)),trivial⟩ fun ac u ES S=>amV<|ji _ _<|anr ?_;have p0:=hc8;have p1:=hc13;have p2:=hc18;refine am2 S results131 ?_;exact⟨aB (by unfold aj.sF; simp only[p0,p1,p2,cond_true,cond_false]),S.E⟩
 refine ano<|fE _ _<|amW fun _ kE=>adr S 1 [.mem 0 0] [(46,nd.v)] fun S=>am3 S 47 (yU (h.below S.E)) fun ac u JX S=>am9 S 9 [.mem 0 0,.mem 0 0] [(_,_,nd.sH,.bool nd.qN),(_,_,(nd.sH&&nd.qN),.bool nd.lZ)] [(2,.bool ((nd.sH&&nd.qN)&&nd.lZ))] ⟨fun u hC g=>yS (h.below (Ext.trans' S.E hC)),fun u hC g=>ug (h.below (Ext.trans' S.E hC)),trivial⟩ fun ac u Ul S=>amV<|kE _ _<|anr ?_;have p0:=hc8;have p1:=hc13;have p2:=hc18;refine am2 S results131 ?_;exact⟨aB (by unfold aj.sF; simp only[p0,p1,p2,cond_false]),S.E⟩
theorem Qx(n:Int)(w:World) :
  Calls prog 133 #[.i n] w fun e w'=>e = .returned (.bool ((decide (1≤n))&&(decide (n≤13))))∧w=w':=by
 skip;refine am0 func133 ntmps133 fun ac S=>amW fun _ aO=>adr S 1 [] [(2,.bool false)] fun S=>amV<|aO _ _<|amW fun _ eG=>adr S 7 [] [(2,.bool ((decide (1≤n))&&(decide (n≤13))))] fun S=>amV<|eG _ _<|amZ S results133 ?_;exact⟨rfl,rfl⟩
def dO.aei(p:dO):Bool:=((decide ((p.r.toNat:Int)≤(p.a.toNat:Int)))&&(decide ((p.g.toNat:Int)≤(p.a.toNat:Int))))&&(decide ((p.b.toNat:Int)≤(p.a.toNat:Int)))
theorem NR(p:dO)(w:World) :
  Calls prog 179 #[.agg #[.int .u8 (p.r.toNat:Int),.int .u8 (p.g.toNat:Int),.int .u8 (p.b.toNat:Int),.int .u8 (p.a.toNat:Int)]] w fun e w'=>e = .returned (.bool (p.aei))∧Ext w w':=by
 skip;refine am0 func179 ntmps179 fun ac S=>amW fun _ aO=>amY S 1 p.cells fun ac u b2 E3 hb4 S=>adr S 1 [] [(2,.bool false)] fun S=>amV<|aO _ _<|amW fun _ dA=>adr S 20 [.mem 0 0,.mem 0 3,.mem 0 1,.mem 0 3,.mem 0 2,.mem 0 3] [(2,.bool (((decide ((p.r.toNat:Int)≤(p.a.toNat:Int)))&&(decide ((p.g.toNat:Int)≤(p.a.toNat:Int))))&&(decide ((p.b.toNat:Int)≤(p.a.toNat:Int)))))] fun S=>amV<|dA _ _<|amZ S results179 ?_;exact⟨rfl,S.E⟩
theorem IX(p:dO):p.aei=p.valid:=by
 unfold dO.aei dO.valid;simp only[UInt8.le_iff_toNat_le,Int.ofNat_le,apz]
theorem Rk(a b:Int)(w:World) :
  Calls prog 178 #[.i a,.i b] w fun e w'=>e = .returned (.bool (nR a b))∧w=w':=by
 skip;refine am0 func178 ntmps178 fun ac S=>amW fun _ aO=>adr S 1 [] [(4,.bool false)] fun S=>amV<|aO _ _<|amW fun _ eG=>adr S 21 [] [(4,.bool (((((decide (1≤a))&&(decide (a≤4096)))&&(decide (1≤b)))&&(decide (b≤4096)))&&(decide ((IntKind.i64.wrap (a*b))≤65536))))] fun S=>amV<|eG _ _<|amZ S results178 ?_;exact⟨aB (by exact aci),rfl⟩
theorem CJ{w:World}{m:cO}(h:m.ok w) :
  Calls prog 134 #[m.v] w fun e w'=>e = .returned (.bool m.valid)∧Ext w w':=by
 obtain⟨a,cap,hs⟩:=h.2.2.shape;unfold cO.v;have hq:=h.2.2;rw[hs];rw[hs]at hq;have hmax:m.l.length≤9223372036854775807:=h.2.2.len;refine am0 func134 ntmps134 fun ac S=>amW fun _ aO=>amY S 1 [.i m.w,.i m.h,.slice a m.l.length cap] fun ac u b2 E3 hb4 S=>adr S 1 [] [(2,.bool false)] fun S=>amV<|aO _ _<|anj fun _ dA=>amW fun _ iQ=>adr S 4 [.mem 0 0,.mem 0 1] [(5,.i m.w),(7,.i m.h)] fun S=>anl S 8 (Rk m.w m.h _) fun ac S=>adr S 12 [.mem 0 2,.mem 0 0,.mem 0 1] [(20,.bool ((!(nR m.w m.h))||(((m.l.length:Int)) != (IntKind.i64.wrap (m.w*m.h)))))] fun S=>amV (iQ _ _ ?_);refine amX S (fun kP=>?_) (fun kP=>?_)
 ·refine amW fun _ dJ=>adr S 1 [] [(2,.bool false)] fun S=>amV<|dJ _ _<|amZ S results134 ?_;exact⟨aB (acj (IW▸kP)),S.E⟩
 refine ano<|dA _ _<|anj fun _ gZ=>amW fun _ fE=>adr S 1 [] [(3,.i 0)] fun S=>amV<|fE _ _<|anp ?_;refine anP (ι:=Nat) (fun p a' w'=>p≤m.l.length∧((m.l.take p).all dO.valid=true)∧Sx.St w a' w' 35 [(0,.agg #[.i m.w,.i m.h,.slice a m.l.length cap]),(1,.pointer (some ⟨b2,0,none⟩)),(2,.bool false),(3,.i p)] [(b2,[.i m.w,.i m.h,.slice a m.l.length cap])] []) (fun p=>m.l.length-p) (0) ⟨anz _,rfl,S.sn⟩ ?_;rintro k ac u hI;try dsimp only at hI
 obtain⟨hk,hR,S⟩:=hI;refine anj fun _ bW=>amW fun _ cZ=>adr S 5 [.mem 0 2] [(25,.bool ((k:Int)<(m.l.length:Int)))] fun S=>amV (cZ _ _ ?_);refine amX S (fun hc13=>?_) (fun hc13=>?_)
 ·refine ano<|bW _ _<|anj fun _ gU=>anp<|amW (fun _ gV=>?_);have BI:k<m.l.length:=by have:=anC hc13; omega
  obtain⟨b16,o17,rfl,x22,Ju,Jt,aaq⟩:=anF hq (fun _=>rfl) (k) BI;have S:=S.view0 Jt aaq;refine adr S 5 [.mem 0 2,.idx k m.l.length,.mem 1 0] [(32,.agg x22.cells.toArray)] (hk:=⟨BI,trivial⟩) fun S=>am3 S 33 (NR x22 _) fun ac u Ul S=>adr S 1 [] [(34,.bool (!x22.aei))] fun S=>amV (gV _ _ ?_);refine amX S (fun hc25=>?_) (fun hc25=>?_)
  ·refine amW fun _ kQ=>adr S 1 [] [(2,.bool false)] fun S=>amV<|kQ _ _<|amZ S results134 ?_;exact⟨aB (Zh (wV BI (by rw[Ju]; simpa[IX]using hc25))),S.E⟩
  refine ano<|gU _ _<|ant<|adr S 3 [.re 27 (.i (IntKind.i64.wrap ((k:Int)+1))) (.i (k+1:Nat))] [(3,.i (k+1:Nat))] (hk:=⟨am8 (by omega),trivial⟩) fun S=>amV ?_;show ∃i',_∧_;exact⟨(k+1),⟨by omega,(kK BI hR (by rw[Ju]; simpa[IX]using hc25)),S.sn⟩,by show _-_<_-_; omega⟩
 refine anB<|gZ _ _<|amW fun _ kY=>adr S 1 [] [(2,.bool true)] fun S=>amV<|kY _ _<|amZ S results134 ?_;exact⟨aB (Zg (IW▸kP) (og (by have:=anE hc13; omega) hR)),S.E⟩
theorem kM(n lo hi:Int)(w:World) :
  Calls prog 210 #[.i n,.i lo,.i hi] w fun e w'=>e = .returned (.bool ((decide (lo≤n))&&(decide (n≤hi))))∧w=w':=by
 skip;refine am0 func210 ntmps210 fun ac S=>amW fun _ aO=>adr S 1 [] [(6,.bool false)] fun S=>amV<|aO _ _<|amW fun _ eG=>adr S 9 [] [(6,.bool ((decide (lo≤n))&&(decide (n≤hi))))] fun S=>amV<|eG _ _<|amZ S results210 ?_;exact⟨rfl,rfl⟩
theorem NS(n:Int)(w:World) :
  Calls prog 209 #[.i n] w fun e w'=>e = .returned (.bool ((decide (1≤n)&&decide (n≤16384))))∧w=w':=by
 skip;refine am0 func209 ntmps209 fun ac S=>amW fun _ aO=>adr S 1 [] [(2,.bool false)] fun S=>amV<|aO _ _<|amW fun _ eG=>adr S 1 [] [(3,.i n)] fun S=>anl S 4 (kM n 1 16384 _) fun ac S=>adr S 1 [] [(2,.bool (decide (1≤n)&&decide (n≤16384)))] fun S=>amV<|eG _ _<|amZ S results209 ?_;exact⟨rfl,rfl⟩
theorem JO{w:World}{v:Value}{l:List Int}(h:fA zG w v l) :
  Calls prog 211 #[v] w fun e w'=>e = .returned (.bool (nN l))∧Ext w w':=by
 obtain⟨a,cap,rfl⟩:=(dW h).shape;have hmax:l.length≤9223372036854775807:=(dW h).len;refine am0 func211 ntmps211 fun ac S=>amW fun _ aO=>adr S 1 [] [(2,.bool false)] fun S=>amV<|aO _ _<|amW fun _ eG=>adr S 4 [] [(3,.bool (((l.length:Int))==0))] fun S=>amV<|eG _ _<|anj fun _ gY=>amW fun _ lQ=>adr S 1 [] [(4,.i 0)] fun S=>amV<|lQ _ _<|anp ?_;refine anP (ι:=Nat×Bool) (fun p a' w'=>p.1≤l.length∧(pF l (l.take p.1)=some p.2)∧Sx.St w a' w' 40 [(0,.slice a l.length cap),(2,.bool false),(3,.bool p.2),(4,.i p.1)] [] []) (fun p=>l.length-p.1) (0,((l.length:Int)==0)) ⟨anz _,Kr l,S.sn⟩ ?_;rintro⟨k,any⟩ ac u hI;try dsimp only at hI
 obtain⟨hk,hR,S⟩:=hI;refine anj fun _ dA=>amW fun _ iQ=>adr S 4 [] [(11,.bool ((k:Int)<(l.length:Int)))] fun S=>amV (iQ _ _ ?_);refine amX S (fun kP=>?_) (fun kP=>?_)
 ·refine ano<|dA _ _<|anj fun _ dJ=>anp<|anj fun _ gZ=>amW (fun _ fE=>?_);have acn:k<l.length:=by have:=anC kP; omega
  obtain⟨b11,o12,rfl,x17,agU,YJ,ala⟩:=anF (dW h) (fun _=>rfl) (k) acn;have S:=S.view0 YJ ala;refine adr S 4 [.idx k l.length,.mem 0 0] [(17,.i x17)] (hk:=⟨acn,trivial⟩) fun S=>anl S 18 (kM x17 0 1048576 _) fun ac S=>adr S 1 [] [(19,.bool (!(decide (0≤x17)&&decide (x17≤1048576))))] fun S=>amV (fE _ _ ?_);refine amX S (fun hc19=>?_) (fun hc19=>?_)
  ·refine amW fun _ jo=>adr S 1 [] [(2,.bool false)] fun S=>amV<|jo _ _<|amZ S results211 ?_;exact⟨aB (Pj acn hR (by rw[agU]; exact Zf hc19)),S.E⟩
  refine ano<|gZ _ _<|ant<|adr S 9 [.idx k l.length,.mem 0 0] [(3,.bool (any||(decide (0<x17))))] (hk:=⟨acn,trivial⟩) fun S=>amV<|dJ _ _<|ant<|adr S 3 [.re 13 (.i (IntKind.i64.wrap ((k:Int)+1))) (.i (k+1:Nat))] [(4,.i (k+1:Nat))] (hk:=⟨am8 (by omega),trivial⟩) fun S=>amV ?_;show ∃i',_∧_;exact⟨((k+1),any||(decide (0<x17))),⟨by omega,(by rw[←agU]; exact Kt acn hR (by rw[agU]; exact Vb hc19)),S.sn⟩,by show _-_<_-_; omega⟩
 refine anB<|gY _ _<|amW fun _ jT=>adr S 13 [] [(2,.bool ((any&&(decide ((l.length:Int)≤16)))&&(((Int.tmod (l.length:Int) 2))==0)))] fun S=>amV<|jT _ _<|amZ S results211 ?_;exact⟨aB (Vd (by have:=anE kP; omega) hR),S.E⟩
theorem Xl{p:aW}{v:Bool}(h:(v=false∧(((!(decide (1≤p.width)&&decide (p.width≤16384)))||(!(decide (1≤p.join)&&decide (p.join≤3))))||(!(decide (3≤p.cap)&&decide (p.cap≤5))))=true)∨(v=(((decide (256≤p.eF)&&decide (p.eF≤65536))&&(nN p.dash))&&(decide (0≤p.phase)&&decide (p.phase≤1048576)))∧(((!(decide (1≤p.width)&&decide (p.width≤16384)))||(!(decide (1≤p.join)&&decide (p.join≤3))))||(!(decide (3≤p.cap)&&decide (p.cap≤5))))=false)):v=p.valid:=by
 rw[aop];unfold aW.valid;generalize nN p.dash=dd at h ⊢;rcases h with ⟨rfl,h⟩ | ⟨rfl,h⟩<;>cases dd<;>simp only[ao5,anM,apc,aom,ao6,anT,Bool.and_eq_false_iff,aoC,anO,apD,and_false,false_and,and_true,false_iff]at h ⊢ <;> omega
theorem Nq{w:World}{p:aW}(h:p.ok w) :
  Calls prog 176 #[p.v] w fun e w'=>e = .returned (.bool p.valid)∧Ext w w':=by
 skip;refine am0 func176 ntmps176 fun ac S=>amW fun _ aO=>amY S 1 p.cells fun ac u b2 E3 hb4 S=>adr S 1 [] [(2,.bool false)] fun S=>amV<|aO _ _<|anj fun _ dA=>amW fun _ iQ=>adr S 2 [.mem 0 0] [(4,.i p.width)] fun S=>anl S 5 (NS p.width _) fun ac S=>am9 S 13 [.mem 0 1,.mem 0 2] [(_,_,(!(!(decide (1≤p.width)&&decide (p.width≤16384)))),.bool (decide (1≤p.join)&&decide (p.join≤3))),(_,_,(!((!(decide (1≤p.width)&&decide (p.width≤16384)))||(!(decide (1≤p.join)&&decide (p.join≤3))))),.bool (decide (3≤p.cap)&&decide (p.cap≤5)))] [(18,.bool (((!(decide (1≤p.width)&&decide (p.width≤16384)))||(!(decide (1≤p.join)&&decide (p.join≤3))))||(!(decide (3≤p.cap)&&decide (p.cap≤5)))))] ⟨fun u hC g=>anc (kM p.join 1 3 _),fun u hC g=>anc (kM p.cap 3 5 _),trivial⟩ fun ac u E7 S=>amV (iQ _ _ ?_);refine amX S (fun hc8=>?_) (fun hc8=>?_)
 ·refine amW fun _ gZ=>adr S 1 [] [(2,.bool false)] fun S=>amV<|gZ _ _<|anr ?_;have p0:=hc8;refine am2 S results176 ?_;exact⟨aB (Xl (.inl ⟨rfl,p0⟩)),S.E⟩
 refine ano<|dA _ _<|amW fun _ fE=>adr S 2 [.mem 0 3] [(20,.i p.eF)] fun S=>anl S 21 (kM p.eF 256 65536 _) fun ac S=>am9 S 11 [.mem 0 4,.mem 0 5] [(_,_,(decide (256≤p.eF)&&decide (p.eF≤65536)),.bool (nN p.dash)),(_,_,((decide (256≤p.eF)&&decide (p.eF≤65536))&&(nN p.dash)),.bool (decide (0≤p.phase)&&decide (p.phase≤1048576)))] [(2,.bool (((decide (256≤p.eF)&&decide (p.eF≤65536))&&(nN p.dash))&&(decide (0≤p.phase)&&decide (p.phase≤1048576))))] ⟨fun u hC g=>JO (h.2.2.2.2.1.below (Ext.trans' S.E hC)),fun u hC g=>anc (kM p.phase 0 1048576 _),trivial⟩ fun ac u wO S=>amV<|fE _ _<|anr ?_;have p0:=hc8;refine am2 S results176 ?_;exact⟨aB (Xl (.inr ⟨rfl,p0⟩)),S.E⟩
def pX(x y:Int):Bool:=(((decide (-1048576≤x))&&(decide (x≤1048576)))&&(decide (-1048576≤y)))&&(decide (y≤1048576))
theorem lY(x y:Int)(w:World) :
  Calls prog 238 #[.agg #[.i x,.i y]] w fun e w'=>e = .returned (.bool (pX x y))∧Ext w w':=by
 skip;refine am0 func238 ntmps238 fun ac S=>amW fun _ aO=>amY S 1 [.i x,.i y] fun ac u b2 E3 hb4 S=>adr S 1 [] [(2,.bool false)] fun S=>amV<|aO _ _<|amW fun _ dA=>adr S 19 [.mem 0 0,.mem 0 0,.mem 0 1,.mem 0 1] [(2,.bool ((((decide (-1048576≤x))&&(decide (x≤1048576)))&&(decide (-1048576≤y)))&&(decide (y≤1048576))))] fun S=>amV<|dA _ _<|amZ S results238 ?_;exact⟨rfl,S.E⟩
theorem vN(n:Int)(w:World) :
  Calls prog 258 #[.i n] w fun e w'=>e = .returned (.bool ((decide (1≤n))&&(decide (n≤3))))∧w=w':=by
 skip;refine am0 func258 ntmps258 fun ac S=>amW fun _ aO=>adr S 1 [] [(2,.bool false)] fun S=>amV<|aO _ _<|amW fun _ eG=>adr S 7 [] [(2,.bool ((decide (1≤n))&&(decide (n≤3))))] fun S=>amV<|eG _ _<|amZ S results258 ?_;exact⟨rfl,rfl⟩
end Go.Proofs.YtfmkkemfhjkajaaGreatDoor
