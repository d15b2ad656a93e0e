/- Walks of packages intmath, vec and path: what the checks of a path answer. -/
import Derived.Test.YtfmkkemfhjkajaaGreatDoorPk13
import Derived.LoopN
set_option linter.unusedVariables false
set_option maxHeartbeats 1600000
set_option maxRecDepth 100000
namespace Go.Proofs.YtfmkkemfhjkajaaGreatDoor
open _root_.Go.Proofs.Tryz
open Go.RowKit
variable{α:Type}
def gW(n lo hi:Int):Int:=if n<lo then lo else if hi<n then hi else n
theorem PZ(x y:Int):((gW x (-1048576) 1048576==x)&&(gW y (-1048576) 1048576==y))=kZ.valid ⟨x,y⟩:=by
 have h:∀z:Int,(gW z (-1048576) 1048576==z)=cok z:=by
  intro z;rw[aop];unfold gW cok;simp only[anO,anM,anT];(repeat' split)<;>omega
 rw[h,h]; rfl
theorem YG(n lo hi:Int)(w:World) :
  Calls prog 275 #[.i n,.i lo,.i hi] w fun e w'=>e = .returned (.i (gW n lo hi))∧w=w':=by
 skip;refine am0 func275 ntmps275 fun ac S=>amW fun _ aO=>adr S 1 [] [(6,.i 0)] fun S=>amV<|aO _ _<|anj fun _ eG=>anp<|amW fun _ gY=>adr S 4 [] [(7,.bool (n<lo))] fun S=>amV (gY _ _ ?_);refine amX S (fun hc4=>?_) (fun hc4=>?_)
 ·refine amW fun _ dA=>adr S 2 [] [(6,.i lo)] fun S=>amV<|dA _ _<|anr ?_;have p0:=hc4;try simp only[anT]at p0
  refine am2 S results275 ?_;exact⟨dY (by unfold gW; (repeat' split)<;>omega),rfl⟩
 refine amW fun _ iQ=>adr S 4 [] [(12,.bool (hi<n))] fun S=>amV (iQ _ _ ?_);refine amX S (fun kP=>?_) (fun kP=>?_)
 ·refine amW fun _ dJ=>adr S 2 [] [(6,.i hi)] fun S=>amV<|dJ _ _<|anr ?_;have p0:=hc4;try simp only[aoC]at p0
  have p1:=kP;try simp only[anT]at p1
  refine am2 S results275 ?_;exact⟨dY (by unfold gW; (repeat' split)<;>omega),rfl⟩
 refine ano<|eG _ _<|amW fun _ gZ=>adr S 2 [] [(6,.i n)] fun S=>amV<|gZ _ _<|anr ?_;have p0:=hc4;try simp only[aoC]at p0
 have p1:=kP;try simp only[aoC]at p1
 refine am2 S results275 ?_;exact⟨dY (by unfold gW; (repeat' split)<;>omega),rfl⟩
theorem P5(n:Int)(w:World) :
  Calls prog 269 #[.i n] w fun e w'=>e = .returned (.i (gW n (-1048576) 1048576))∧w=w':=by
 skip;refine am0 func269 ntmps269 fun ac S=>amW fun _ aO=>adr S 1 [] [(2,.i 0)] fun S=>amV<|aO _ _<|amW fun _ eG=>adr S 1 [] [(3,.i n)] fun S=>anl S 4 (YG (n) (-1048576) (1048576) _) fun ac S=>adr S 1 [] [(2,.i (gW n (-1048576) (1048576)))] fun S=>amV<|eG _ _<|amZ S results269 ?_;exact⟨rfl,rfl⟩
theorem abq(x y:Int)(w:World) :
  Calls prog 250 #[.agg #[.i x,.i y]] w fun e w'=>e = .returned (.agg #[.i (gW x (-1048576) 1048576),.i (gW y (-1048576) 1048576)])∧Ext w w':=by
 skip;refine am0 func250 ntmps250 fun ac S=>amW fun _ aO=>amY S 1 [.i x,.i y] fun ac u b2 E3 hb4 S=>amY S 2 [.i 0,.i 0] fun ac u b5 E6 hb7 S=>amV<|aO _ _<|amW fun _ dJ=>adr S 1 [] [(3,.func (.func 269) #[] #[])] fun S=>amV<|dJ _ _<|anj fun _ gZ=>am6 S 9 [.mem 1 0,.mem 1 1] [(_,_,true,.i (gW x (-1048576) 1048576)),(_,_,true,.i (gW y (-1048576) 1048576))] [(12,.agg #[.i (gW x (-1048576) 1048576),.i (gW y (-1048576) 1048576)])] ⟨fun u hC g=>anc (P5 x _),fun u hC g=>anc (P5 y _),trivial⟩ fun ac u BF S=>am1 S 0 (off:=0) (cs:=[.i (gW x (-1048576) 1048576),.i (gW y (-1048576) 1048576)]) rfl fun u C11 S=>amV<|gZ _ _<|ana S 0 results250 rfl (v := .agg #[.i (gW x (-1048576) 1048576),.i (gW y (-1048576) 1048576)]) ?_;exact⟨rfl,S.E⟩
theorem lW(x y:Int)(w:World) :
  Calls prog 225 #[.agg #[.i x,.i y]] w fun e w'=>e = .returned (.bool (kZ.valid ⟨x,y⟩))∧Ext w w':=by
 skip;refine am0 func225 ntmps225 fun ac S=>amW fun _ aO=>amY S 1 [.i x,.i y] fun ac u b2 E3 hb4 S=>adr S 1 [] [(2,.bool false)] fun S=>amV<|aO _ _<|anj fun _ dA=>am6 S 4 [.mem 0 0,.mem 0 0,.cmp .eql 60 (.tmp 4) (.tmp 5) (.agg #[.i (gW x (-1048576) 1048576),.i (gW y (-1048576) 1048576)]) (.agg #[.i x,.i y]) (.bool (((gW x (-1048576) 1048576)==x)&&((gW y (-1048576) 1048576)==y)))] [(_,_,true,.agg #[.i (gW x (-1048576) 1048576),.i (gW y (-1048576) 1048576)])] [(6,.bool (((gW x (-1048576) 1048576)==x)&&((gW y (-1048576) 1048576)==y)))] ⟨fun u hC g=>abq x y _,trivial⟩ (hk:=⟨ang (fun _=>eqPt ..) (by kernel_rfl),trivial⟩) fun ac u E6 S=>adr S 1 [] [(2,.bool (((gW x (-1048576) 1048576)==x)&&((gW y (-1048576) 1048576)==y)))] fun S=>amV<|dA _ _<|amZ S results225 ?_;exact⟨by rw[←PZ],S.E⟩
theorem zq(v:Int)(w:World) :
  Calls prog 193 #[.i v] w fun e w'=>e = .returned (.i (named v))∧w=w':=by
 skip;refine am0 func193 ntmps193 fun ac S=>amW fun _ aO=>adr S 1 [] [(2,.i 0)] fun S=>amV<|aO _ _<|amW fun _ eG=>adr S 1 [] [(3,.i 0)] fun S=>amV<|eG _ _<|anj fun _ gY=>amW fun _ lQ=>adr S 1 [] [(4,.i v)] fun S=>amV<|lQ _ _<|anp<|anj fun _ dA=>anp<|anj fun _ iQ=>anp<|anj fun _ jB=>anp<|anj fun _ dJ=>anp<|anj fun _ gZ=>anp<|anj fun _ fE=>anj fun _ bW=>amW fun _ cZ=>adr S 2 [] [(5,.bool ((v)==4))] fun S=>amV (cZ _ _ ?_);refine amX S (fun hc13=>?_) (fun hc13=>?_)
 ·refine anB<|gZ _ _<|ant<|adr S 3 [] [(3,.i 1)] fun S=>amV<|dJ _ _<|ant<|adr S 3 [] [(3,.i 2)] fun S=>amV<|jB _ _<|amW fun _ gU=>adr S 3 [] [(3,.i 3)] fun S=>amV<|gU _ _<|anB<|gY _ _<|amW fun _ gV=>adr S 2 [] [(2,.i 3)] fun S=>amV<|gV _ _<|anr ?_;have p0:=hc13;try simp only[anO]at p0
  refine am2 S results193 ?_;exact⟨dY (by unfold named; (repeat' split)<;>omega),rfl⟩
 refine ano<|bW _ _<|anj fun _ jM=>amW fun _ iD=>adr S 2 [] [(7,.bool ((v)==3))] fun S=>amV (iD _ _ ?_);refine amX S (fun hc18=>?_) (fun hc18=>?_)
 ·refine anB<|dJ _ _<|ant<|adr S 3 [] [(3,.i 1)] fun S=>amV<|jB _ _<|amW fun _ ji=>adr S 3 [] [(3,.i 2)] fun S=>amV<|ji _ _<|anB<|gY _ _<|amW fun _ jo=>adr S 2 [] [(2,.i 2)] fun S=>amV<|jo _ _<|anr ?_;have p0:=hc13;try simp only[anI,ne_eq]at p0
  have p1:=hc18;try simp only[anO]at p1
  refine am2 S results193 ?_;exact⟨dY (by unfold named; (repeat' split)<;>omega),rfl⟩
 refine ano<|jM _ _<|anj fun _ jT=>anj fun _ kE=>amW fun _ oO=>adr S 2 [] [(9,.bool ((v)==1))] fun S=>amV (oO _ _ ?_);refine amX S (fun hc24=>?_) (fun hc24=>?_)
 ·refine ano<|kE _ _ ?_;refine amX S (fun hc25=>?_) (fun hc25=>?_)
  ·refine anB<|jB _ _<|amW fun _ kQ=>adr S 3 [] [(3,.i 1)] fun S=>amV<|kQ _ _<|anB<|gY _ _<|amW fun _ kY=>adr S 2 [] [(2,.i 1)] fun S=>amV<|kY _ _<|anr ?_;have p0:=hc13;try simp only[anI,ne_eq]at p0
   have p1:=hc18;try simp only[anI,ne_eq]at p1
   have p2:=hc24;try simp only[anO]at p2
   have p3:=hc25;try simp only[anO]at p3
   refine am2 S results193 ?_;exact⟨dY (by unfold named; (repeat' split)<;>omega),rfl⟩
  refine ano<|jT _ _<|amW fun _ kR=>adr S 2 [] [(12,.bool ((v)==5))] fun S=>amV (kR _ _ ?_);refine amX S (fun hc29=>?_) (fun hc29=>?_)
  ·refine anB<|iQ _ _<|anB<|gY _ _<|amW fun _ mM=>adr S 2 [] [(2,.i 0)] fun S=>amV<|mM _ _<|anr ?_;have p0:=hc13;try simp only[anI,ne_eq]at p0
   have p1:=hc18;try simp only[anI,ne_eq]at p1
   have p2:=hc24;try simp only[anO]at p2
   have p3:=hc25;try simp only[anI,ne_eq]at p3
   have p4:=hc29;try simp only[anO]at p4
   refine am2 S results193 ?_;exact⟨dY (by unfold named; (repeat' split)<;>omega),rfl⟩
  refine ano<|fE _ _<|anB<|dA _ _<|anj fun _ qp=>amW fun _ jF=>adr S 1 [] [(2,.i (-1))] fun S=>amV<|jF _ _<|anr ?_;have p0:=hc13;try simp only[anI,ne_eq]at p0
  have p1:=hc18;try simp only[anI,ne_eq]at p1
  have p2:=hc24;try simp only[anO]at p2
  have p3:=hc25;try simp only[anI,ne_eq]at p3
  have p4:=hc29;try simp only[anI,ne_eq]at p4
  refine am2 S results193 ?_;exact⟨dY (by unfold named; (repeat' split)<;>omega),rfl⟩
 refine ant<|adr S 2 [] [(9,.bool ((v)==2))] fun S=>amV (kE _ _ ?_);refine amX S (fun mX=>?_) (fun mX=>?_)
 ·refine anB<|jB _ _<|amW fun _ wQ=>adr S 3 [] [(3,.i 1)] fun S=>amV<|wQ _ _<|anB<|gY _ _<|amW fun _ nI=>adr S 2 [] [(2,.i 1)] fun S=>amV<|nI _ _<|anr ?_;have p0:=hc13;try simp only[anI,ne_eq]at p0
  have p1:=hc18;try simp only[anI,ne_eq]at p1
  have p2:=hc24;try simp only[anI,ne_eq]at p2
  have p3:=mX;try simp only[anO]at p3
  refine am2 S results193 ?_;exact⟨dY (by unfold named; (repeat' split)<;>omega),rfl⟩
 refine ano<|jT _ _<|amW fun _ oP=>adr S 2 [] [(12,.bool ((v)==5))] fun S=>amV (oP _ _ ?_);refine amX S (fun qC=>?_) (fun qC=>?_)
 ·refine anB<|iQ _ _<|anB<|gY _ _<|amW fun _ jG=>adr S 2 [] [(2,.i 0)] fun S=>amV<|jG _ _<|anr ?_;have p0:=hc13;try simp only[anI,ne_eq]at p0
  have p1:=hc18;try simp only[anI,ne_eq]at p1
  have p2:=hc24;try simp only[anI,ne_eq]at p2
  have p3:=mX;try simp only[anI,ne_eq]at p3
  have p4:=qC;try simp only[anO]at p4
  refine am2 S results193 ?_;exact⟨dY (by unfold named; (repeat' split)<;>omega),rfl⟩
 refine ano<|fE _ _<|anB<|dA _ _<|anj fun _ uF=>amW fun _ yj=>adr S 1 [] [(2,.i (-1))] fun S=>amV<|yj _ _<|anr ?_;have p0:=hc13;try simp only[anI,ne_eq]at p0
 have p1:=hc18;try simp only[anI,ne_eq]at p1
 have p2:=hc24;try simp only[anI,ne_eq]at p2
 have p3:=mX;try simp only[anI,ne_eq]at p3
 have p4:=qC;try simp only[anI,ne_eq]at p4
 refine am2 S results193 ?_;exact⟨dY (by unfold named; (repeat' split)<;>omega),rfl⟩
theorem fits_any(s:eH)(w:World) :
  Calls prog 194 #[.agg #[.i s.verb,.i s.a.x,.i s.a.y,.i s.b.x,.i s.b.y,.i s.c.x,.i s.c.y]] w fun e w'=>e = .returned (.bool s.fits)∧Ext w w':=by
 skip;refine am0 func194 ntmps194 fun ac S=>amW fun _ aO=>amY S 1 s.cells fun ac u b2 E3 hb4 S=>adr S 1 [] [(2,.bool false)] fun S=>amV<|aO _ _<|anj fun _ dA=>amW fun _ iQ=>adr S 6 [.mem 0 1,.mem 0 3,.mem 0 5] [(6,.agg #[.i s.a.x,.i s.a.y]),(8,.agg #[.i s.b.x,.i s.b.y]),(10,.agg #[.i s.c.x,.i s.c.y])] fun S=>ani S 11 3 [.i s.a.x,.i s.a.y,.i s.b.x,.i s.b.y,.i s.c.x,.i s.c.y] fun ac u b7 E8 hb9 S=>adr S 2 [] [(12,.i 3),(13,.i 0)] fun S=>amV<|iQ _ _<|anp<|aoP 4 ?_;rw[anH];refine amW fun _ fE=>adr S 1 [] [(14,.bool true)] fun S=>amV<|fE _ _<|anj fun _ bW=>am7 S<|ano<|bW _ _<|anj fun _ cZ=>anp<|amW fun _ gJ=>adr S 3 [.mem 0 0] [(15,.i 0),(17,.agg #[.i s.a.x,.i s.a.y])] fun S=>amY S 4 [.i 0,.i 0] fun ac u b14 TU hb16 S=>adr S 1 [] [(3,.i 0)] fun S=>am1 S 0 (off:=0) (cs:=[.i s.a.x,.i s.a.y]) rfl fun u C17 S=>amV<|gJ _ _<|amW fun _ jH=>adr S 1 [.mem 0 0] [(18,.agg #[.i s.a.x,.i s.a.y])] fun S=>am3 S 19 (lW (s.a.x) (s.a.y) _) fun ac u XL S=>am9 S 13 [.mem 2 0,.mem 0 0,.cmp .neq 60 (.tmp 28) (.tmp 29) (.agg #[.i s.a.x,.i s.a.y]) (.agg #[.i 0,.i 0]) (.bool (!((s.a.x==0)&&(s.a.y==0))))] [(_,_,(!(!(kZ.valid ⟨s.a.x,s.a.y⟩))),.i (named s.verb))] [(32,.bool ((!(kZ.valid ⟨s.a.x,s.a.y⟩))||((decide ((named s.verb)≤0))&&(!((s.a.x==0)&&(s.a.y==0))))))] ⟨fun u hC g=>anc (zq (s.verb) _),trivial⟩ (hk:=⟨ang (fun _=>YH ..) (by kernel_rfl),trivial⟩) fun ac u Eh S=>amV (jH _ _ ?_);refine amX S (fun hc21=>?_) (fun hc21=>?_)
 ·refine amW fun _ kE=>adr S 1 [] [(2,.bool false)] fun S=>amV<|kE _ _<|anr ?_;have g0:lF s.verb 0 s.a=false:=by
   have hh:=hc21;show(kZ.valid ⟨s.a.x,s.a.y⟩ && !(decide (named s.verb≤0) && !((s.a.x==0)&&(s.a.y==0))))=_;revert hh;cases kZ.valid ⟨s.a.x,s.a.y⟩<;>cases decide (named s.verb≤0)<;>cases ((s.a.x==0)&&(s.a.y==0))<;>simp
  refine am2 S results194 ?_;exact⟨by rw[show s.fits=false from by simp[eH.fits,g0]],S.E⟩
 refine ano<|cZ _ _<|ant<|adr S 2 [] [(13,.i 1)] fun S=>amV ?_;show Code.rounds _ _ _ 3 _ _;rw[anH];refine amW fun _ oO=>adr S 1 [] [(14,.bool true)] fun S=>amV<|oO _ _<|anj fun _ lq=>am7 S<|ano<|lq _ _<|anj fun _ uz=>anp<|amW fun _ kQ=>adr S 3 [.mem 1 2] [(15,.i 1),(17,.agg #[.i s.b.x,.i s.b.y])] fun S=>amY S 4 [.i 0,.i 0] fun ac u b27 E28 xW S=>adr S 1 [] [(3,.i 1)] fun S=>am1 S 0 (off:=0) (cs:=[.i s.b.x,.i s.b.y]) rfl fun u C30 S=>amV<|kQ _ _<|amW fun _ qp=>adr S 1 [.mem 0 0] [(18,.agg #[.i s.b.x,.i s.b.y])] fun S=>am3 S 19 (lW (s.b.x) (s.b.y) _) fun ac u E32 S=>am9 S 13 [.mem 3 0,.mem 0 0,.cmp .neq 60 (.tmp 28) (.tmp 29) (.agg #[.i s.b.x,.i s.b.y]) (.agg #[.i 0,.i 0]) (.bool (!((s.b.x==0)&&(s.b.y==0))))] [(_,_,(!(!(kZ.valid ⟨s.b.x,s.b.y⟩))),.i (named s.verb))] [(32,.bool ((!(kZ.valid ⟨s.b.x,s.b.y⟩))||((decide ((named s.verb)≤1))&&(!((s.b.x==0)&&(s.b.y==0))))))] ⟨fun u hC g=>anc (zq (s.verb) _),trivial⟩ (hk:=⟨ang (fun _=>YH ..) (by kernel_rfl),trivial⟩) fun ac u E33 S=>amV (qp _ _ ?_);refine amX S (fun hc34=>?_) (fun hc34=>?_)
 ·refine amW fun _ nI=>adr S 1 [] [(2,.bool false)] fun S=>amV<|nI _ _<|anr ?_;have g0:lF s.verb 0 s.a=true:=by
   have hh:=hc21;show(kZ.valid ⟨s.a.x,s.a.y⟩ && !(decide (named s.verb≤0) && !((s.a.x==0)&&(s.a.y==0))))=_;revert hh;cases kZ.valid ⟨s.a.x,s.a.y⟩<;>cases decide (named s.verb≤0)<;>cases ((s.a.x==0)&&(s.a.y==0))<;>simp
  have g1:lF s.verb 1 s.b=false:=by
   have hh:=hc34;show(kZ.valid ⟨s.b.x,s.b.y⟩ && !(decide (named s.verb≤1) && !((s.b.x==0)&&(s.b.y==0))))=_;revert hh;cases kZ.valid ⟨s.b.x,s.b.y⟩<;>cases decide (named s.verb≤1)<;>cases ((s.b.x==0)&&(s.b.y==0))<;>simp
  refine am2 S results194 ?_;exact⟨by rw[show s.fits=false from by simp[eH.fits,g0,g1]],S.E⟩
 refine ano<|uz _ _<|ant<|adr S 2 [] [(13,.i 2)] fun S=>amV ?_;show Code.rounds _ _ _ 2 _ _;rw[anH];refine amW fun _ oP=>adr S 1 [] [(14,.bool true)] fun S=>amV<|oP _ _<|anj fun _ uH=>am7 S<|ano<|uH _ _<|anj fun _ jG=>anp<|amW fun _ uF=>adr S 3 [.mem 2 4] [(15,.i 2),(17,.agg #[.i s.c.x,.i s.c.y])] fun S=>amY S 4 [.i 0,.i 0] fun ac u b40 E41 akc S=>adr S 1 [] [(3,.i 2)] fun S=>am1 S 0 (off:=0) (cs:=[.i s.c.x,.i s.c.y]) rfl fun u C43 S=>amV<|uF _ _<|amW fun _ vg=>adr S 1 [.mem 0 0] [(18,.agg #[.i s.c.x,.i s.c.y])] fun S=>am3 S 19 (lW (s.c.x) (s.c.y) _) fun ac u OT S=>am9 S 13 [.mem 4 0,.mem 0 0,.cmp .neq 60 (.tmp 28) (.tmp 29) (.agg #[.i s.c.x,.i s.c.y]) (.agg #[.i 0,.i 0]) (.bool (!((s.c.x==0)&&(s.c.y==0))))] [(_,_,(!(!(kZ.valid ⟨s.c.x,s.c.y⟩))),.i (named s.verb))] [(32,.bool ((!(kZ.valid ⟨s.c.x,s.c.y⟩))||((decide ((named s.verb)≤2))&&(!((s.c.x==0)&&(s.c.y==0))))))] ⟨fun u hC g=>anc (zq (s.verb) _),trivial⟩ (hk:=⟨ang (fun _=>YH ..) (by kernel_rfl),trivial⟩) fun ac u E46 S=>amV (vg _ _ ?_);refine amX S (fun hc47=>?_) (fun hc47=>?_)
 ·refine amW fun _ zN=>adr S 1 [] [(2,.bool false)] fun S=>amV<|zN _ _<|anr ?_;have g0:lF s.verb 0 s.a=true:=by
   have hh:=hc21;show(kZ.valid ⟨s.a.x,s.a.y⟩ && !(decide (named s.verb≤0) && !((s.a.x==0)&&(s.a.y==0))))=_;revert hh;cases kZ.valid ⟨s.a.x,s.a.y⟩<;>cases decide (named s.verb≤0)<;>cases ((s.a.x==0)&&(s.a.y==0))<;>simp
  have g1:lF s.verb 1 s.b=true:=by
   have hh:=hc34;show(kZ.valid ⟨s.b.x,s.b.y⟩ && !(decide (named s.verb≤1) && !((s.b.x==0)&&(s.b.y==0))))=_;revert hh;cases kZ.valid ⟨s.b.x,s.b.y⟩<;>cases decide (named s.verb≤1)<;>cases ((s.b.x==0)&&(s.b.y==0))<;>simp
  have g2:lF s.verb 2 s.c=false:=by
   have hh:=hc47;show(kZ.valid ⟨s.c.x,s.c.y⟩ && !(decide (named s.verb≤2) && !((s.c.x==0)&&(s.c.y==0))))=_;revert hh;cases kZ.valid ⟨s.c.x,s.c.y⟩<;>cases decide (named s.verb≤2)<;>cases ((s.c.x==0)&&(s.c.y==0))<;>simp
  refine am2 S results194 ?_;exact⟨by rw[show s.fits=false from by simp[eH.fits,g0,g1,g2]],S.E⟩
 refine ano<|jG _ _<|ant<|adr S 2 [] [(13,.i 3)] fun S=>amV ?_;show Code.rounds _ _ _ 1 _ _;rw[anH];refine amW fun _ xU=>adr S 1 [] [(14,.bool false)] fun S=>amV<|xU _ _<|anj fun _ zL=>ane S<|anB<|dA _ _<|amW fun _ zI=>adr S 1 [] [(2,.bool true)] fun S=>amV<|zI _ _<|anr ?_;have g0:lF s.verb 0 s.a=true:=by
  have hh:=hc21;show(kZ.valid ⟨s.a.x,s.a.y⟩ && !(decide (named s.verb≤0) && !((s.a.x==0)&&(s.a.y==0))))=_;revert hh;cases kZ.valid ⟨s.a.x,s.a.y⟩<;>cases decide (named s.verb≤0)<;>cases ((s.a.x==0)&&(s.a.y==0))<;>simp
 have g1:lF s.verb 1 s.b=true:=by
  have hh:=hc34;show(kZ.valid ⟨s.b.x,s.b.y⟩ && !(decide (named s.verb≤1) && !((s.b.x==0)&&(s.b.y==0))))=_;revert hh;cases kZ.valid ⟨s.b.x,s.b.y⟩<;>cases decide (named s.verb≤1)<;>cases ((s.b.x==0)&&(s.b.y==0))<;>simp
 have g2:lF s.verb 2 s.c=true:=by
  have hh:=hc47;show(kZ.valid ⟨s.c.x,s.c.y⟩ && !(decide (named s.verb≤2) && !((s.c.x==0)&&(s.c.y==0))))=_;revert hh;cases kZ.valid ⟨s.c.x,s.c.y⟩<;>cases decide (named s.verb≤2)<;>cases ((s.c.x==0)&&(s.c.y==0))<;>simp
 refine am2 S results194 ?_;exact⟨by rw[show s.fits=true from by simp[eH.fits,g0,g1,g2]],S.E⟩
open Go.RowKit
variable{α:Type}
theorem P6{x:eH}{last:Int}(h:decide (named x.verb<0)=true):x.err last=2:=anv (anC h)
theorem KF{x:eH}{last:Int}(h:decide (named x.verb<0)=false)(h1:(!x.stands last)=true):x.err last=10:=by
 unfold eH.err; rw[anq (anE h),anv (by simpa using h1)]
theorem BZ{x:eH}{last:Int}(h:decide (named x.verb<0)=false)(h1:(!x.stands last)=false)(h2:(!x.fits)=true):x.err last=6:=by
 unfold eH.err; rw[anq (anE h),anq (by simpa using h1),anv (by simpa using h2)]
theorem P7{x:eH}{last:Int}(h:decide (named x.verb<0)=false)(h1:(!x.stands last)=false)(h2:(!x.fits)=false):x.err last=0:=by
 unfold eH.err; rw[anq (anE h),anq (by simpa using h1),anq (by simpa using h2)]
theorem JG{w:World}{v:Value}{l:List eH}(h:oU w v l) :
  Calls prog 154 #[v] w fun e w'=>e = .returned (.tuple #[.i (dM l).1,.i (dM l).2])∧Ext w w':=by
 obtain⟨a,cap,rfl⟩:=h.1.shape;have hmax:l.length≤9223372036854775807:=h.1.len;refine am0 func154 ntmps154 fun ac S=>amW fun _ aO=>adr S 2 [] [(2,.i 0),(3,.i 0)] fun S=>amV<|aO _ _<|anj fun _ eG=>amW fun _ gY=>adr S 3 [] [(10,.bool (256<(l.length:Int)))] fun S=>amV (gY _ _ ?_);refine amX S (fun hc4=>?_) (fun hc4=>?_)
 ·refine amW fun _ dA=>adr S 2 [] [(2,.i 5),(3,.i 256)] fun S=>amV<|dA _ _<|anr ?_;have p0:256<(l.length:Int):=anC hc4;refine aol S results154 ?_;have e:dM l=(5,256):=by unfold dM; rw[anv p0]
  exact⟨by rw[e],S.E⟩
 refine ano<|eG _ _<|amW fun _ iQ=>adr S 1 [] [(4,.i 5)] fun S=>amV<|iQ _ _<|anj fun _ jB=>amW fun _ dJ=>adr S 3 [] [(11,.slice a l.length cap),(12,.i l.length),(13,.i 0)] fun S=>amV<|dJ _ _<|anp ?_;refine anP (ι:=Nat×Int) (fun p a' w'=>p.1≤l.length∧(ni 5 0 l=ni p.2 (p.1:Int) (l.drop p.1))∧Sx.St w a' w' 52 [(0,.slice a l.length cap),(2,.i 0),(3,.i 0),(4,.i p.2),(11,.slice a l.length cap),(12,.i l.length),(13,.i p.1)] [] []) (fun p=>l.length-p.1) (0,5) ⟨anz _,rfl,S.sn⟩ ?_;rintro⟨k,last⟩ ac u hI;try dsimp only at hI
 obtain⟨hk,hR,S⟩:=hI;refine amW fun _ gZ=>adr S 1 [] [(14,.bool ((k:Int)<(l.length:Int)))] fun S=>amV<|gZ _ _<|anj (fun _ fE=>?_);refine amX S (fun iq=>?_) (fun iq=>?_)
 ·refine ano<|fE _ _<|anj fun _ cZ=>anp<|amW (fun _ gJ=>?_);have jk:k<l.length:=by have:=anC iq; omega
  obtain⟨b14,o15,rfl,x20,mY,wS,yu⟩:=anF h.1 (fun _=>rfl) (k) jk;have S:=S.view0 wS yu;refine adr S 3 [.idx k l.length,.mem 0 0] [(15,.i k),(17,.agg x20.cells.toArray)] (hk:=⟨jk,trivial⟩) fun S=>amY S 6 [.i 0,.i 0,.i 0,.i 0,.i 0,.i 0,.i 0] fun ac u b22 JX Gm S=>adr S 1 [] [(5,.i k)] fun S=>am1 S 0 (off:=0) (cs:=x20.cells) rfl fun u C25 S=>amV<|gJ _ _<|amW fun _ kQ=>adr S 17 [.mem 0 0,.mem 0 0] [(7,.bool (((x20.verb)==1)||(((last) != 5)&&(((x20.verb) != 5)||((last) != 1)))))] fun S=>amV<|kQ _ _<|anj fun _ kY=>anp<|amW fun _ kR=>adr S 2 [.mem 0 0] [(36,.i x20.verb)] fun S=>anl S 37 (zq (x20.verb) _) fun ac S=>adr S 2 [] [(34,.bool ((named x20.verb)<0))] fun S=>amV (kR _ _ ?_);refine amX S (fun hc29=>?_) (fun hc29=>?_)
  ·refine amW fun _ mM=>adr S 3 [] [(2,.i 2),(3,.i k)] fun S=>amV<|mM _ _<|anr ?_;have herr:x20.err last=2:=P6 hc29;have p0:¬256<(l.length:Int):=anE hc4;refine aol S results154 ?_;have e:dM l=(2,(k:Int)):=by
    unfold dM;rw[anq (by omega),hR,aoo jk,mY,ni,herr];rfl
   exact⟨by rw[e],S.E⟩
  refine amW fun _ qp=>adr S 3 [] [(40,.bool (!(((x20.verb)==1)||(((last) != 5)&&(((x20.verb) != 5)||((last) != 1))))))] fun S=>amV (qp _ _ ?_);refine amX S (fun hc32=>?_) (fun hc32=>?_)
  ·refine amW fun _ mF=>adr S 3 [] [(2,.i 10),(3,.i k)] fun S=>amV<|mF _ _<|anr ?_;have herr:x20.err last=10:=KF hc29 hc32;have p0:¬256<(l.length:Int):=anE hc4;refine aol S results154 ?_;have e:dM l=(10,(k:Int)):=by
    unfold dM;rw[anq (by omega),hR,aoo jk,mY,ni,herr];rfl
   exact⟨by rw[e],S.E⟩
  refine amW fun _ wQ=>adr S 1 [.mem 0 0] [(45,.agg x20.cells.toArray)] fun S=>am3 S 46 (fits_any x20 _) fun ac u WE S=>adr S 2 [] [(44,.bool (!x20.fits))] fun S=>amV (wQ _ _ ?_);refine amX S (fun Gn=>?_) (fun Gn=>?_)
  ·refine amW fun _ uH=>adr S 3 [] [(2,.i 6),(3,.i k)] fun S=>amV<|uH _ _<|anr ?_;have herr:x20.err last=6:=BZ hc29 hc32 Gn;have p0:¬256<(l.length:Int):=anE hc4;refine aol S results154 ?_;have e:dM l=(6,(k:Int)):=by
    unfold dM;rw[anq (by omega),hR,aoo jk,mY,ni,herr];rfl
   exact⟨by rw[e],S.E⟩
  refine ano<|kY _ _<|ant<|adr S 3 [.mem 0 0] [(4,.i x20.verb)] fun S=>amV<|cZ _ _<|ant<|adr S 2 [.re 51 (.i (IntKind.i64.wrap ((k:Int)+1))) (.i (k+1:Nat))] [(13,.i (k+1:Nat))] (hk:=⟨am8 (by omega),trivial⟩) fun S=>amV ?_;show ∃i',_∧_;have herr:x20.err last=0:=P7 hc29 hc32 Gn;rw[aoo jk,mY,ni,anv herr]at hR;exact⟨((k+1),x20.verb),⟨by omega,hR,(S.sub [(0,.slice (some ⟨b14,o15,none⟩) l.length cap),(2,.i 0),(3,.i 0),(4,.i x20.verb),(11,.slice (some ⟨b14,o15,none⟩) l.length cap),(12,.i l.length),(13,.i (k+1:Nat))]).rU.lu 1⟩,by show _-_<_-_; omega⟩
 refine anB<|jB _ _<|amW fun _ jG=>adr S 2 [] [(2,.i 0),(3,.i 0)] fun S=>amV<|jG _ _<|anr ?_;have p0:¬256<(l.length:Int):=anE hc4;have p1:¬(k:Int)<(l.length:Int):=anE iq;refine aol S results154 ?_;have e:dM l=(0,0):=by
  unfold dM;rw[anq (by omega),hR,aon (by omega)];rfl
 exact⟨by rw[e],S.E⟩
theorem zY{w:World}{v:Value}{l:List eH}(h:oU w v l) :
  Calls prog 117 #[v] w fun e w'=>e = .returned (.bool (jr l))∧Ext w w':=by
 skip;refine am0 func117 ntmps117 fun ac S=>amW fun _ aO=>adr S 1 [] [(2,.bool false)] fun S=>amV<|aO _ _<|amW fun _ eG=>adr S 1 [] [(6,v)] fun S=>am3 S 7 (JG (h.below S.E)) fun ac u E3 S=>adr S 5 [] [(3,.i ((dM l).1))] fun S=>amV<|eG _ _<|amW fun _ lQ=>adr S 3 [] [(2,.bool (((dM l).1)==0))] fun S=>amV<|lQ _ _<|amZ S results117 ?_;exact⟨rfl,S.E⟩
end Go.Proofs.YtfmkkemfhjkajaaGreatDoor
