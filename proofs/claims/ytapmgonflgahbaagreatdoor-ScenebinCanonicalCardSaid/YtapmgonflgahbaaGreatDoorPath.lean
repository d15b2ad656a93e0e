/- Walks of packages intmath, vec and path: what the checks of a path answer. -/
import Derived.Test.YtapmgonflgahbaaGreatDoorPk12
import Derived.LoopN
set_option linter.unusedVariables false
set_option maxHeartbeats 1600000
set_option maxRecDepth 100000
namespace Go.Proofs.YtapmgonflgahbaaGreatDoor
open _root_.Go.Proofs.Tryz
open Go.RowKit
variable{α:Type}
def fQ(n lo hi:Int):Int:=if n<lo then lo else if hi<n then hi else n
theorem Pq(x y:Int):((fQ x (-1048576) 1048576==x)&&(fQ y (-1048576) 1048576==y))=kV.valid ⟨x,y⟩:=by
 have h:∀z:Int,(fQ z (-1048576) 1048576==z)=cok z:=by
  intro z;rw[axA];unfold fQ cok;simp only[awE,awC,awL];(repeat' split)<;>omega
 rw[h,h]; rfl
theorem Yt(n lo hi:Int)(w:World) :
  Calls prog 359 #[.i n,.i lo,.i hi] w fun e w'=>e = .returned (.i (fQ n lo hi))∧w=w':=by
 skip;refine avU func359 ntmps359 fun ac S=>avP fun _ aV=>adr S 1 [] [(6,.i 0)] fun S=>apB<|aV _ _<|awg fun _ fK=>awi<|avP fun _ jC=>adr S 4 [] [(7,.bool (n<lo))] fun S=>apB (jC _ _ ?_);refine avR S (fun hc4=>?_) (fun hc4=>?_)
 ·refine avP fun _ dA=>adr S 2 [] [(6,.i lo)] fun S=>apB<|dA _ _<|awq ?_;have p0:=hc4;try simp only[awL]at p0
  refine av2 S results359 ?_;exact⟨iV (by unfold fQ; (repeat' split)<;>omega),rfl⟩
 refine avP fun _ jq=>adr S 4 [] [(12,.bool (hi<n))] fun S=>apB (jq _ _ ?_);refine avR S (fun oL=>?_) (fun oL=>?_)
 ·refine avP fun _ dS=>adr S 2 [] [(6,.i hi)] fun S=>apB<|dS _ _<|awq ?_;have p0:=hc4;try simp only[axw]at p0
  have p1:=oL;try simp only[awL]at p1
  refine av2 S results359 ?_;exact⟨iV (by unfold fQ; (repeat' split)<;>omega),rfl⟩
 refine awh<|fK _ _<|avP fun _ ig=>adr S 2 [] [(6,.i n)] fun S=>apB<|ig _ _<|awq ?_;have p0:=hc4;try simp only[axw]at p0
 have p1:=oL;try simp only[axw]at p1
 refine av2 S results359 ?_;exact⟨iV (by unfold fQ; (repeat' split)<;>omega),rfl⟩
theorem Pv(n:Int)(w:World) :
  Calls prog 357 #[.i n] w fun e w'=>e = .returned (.i (fQ n (-1048576) 1048576))∧w=w':=by
 skip;refine avU func357 ntmps357 fun ac S=>avP fun _ aV=>adr S 1 [] [(2,.i 0)] fun S=>apB<|aV _ _<|avP fun _ fK=>adr S 1 [] [(3,.i n)] fun S=>Sx.calls S 4 (Yt (n) (-1048576) (1048576) _) fun ac S=>adr S 1 [] [(2,.i (fQ n (-1048576) (1048576)))] fun S=>apB<|fK _ _<|avS S results357 ?_;exact⟨rfl,rfl⟩
theorem abP(x y:Int)(w:World) :
  Calls prog 345 #[.agg #[.i x,.i y]] w fun e w'=>e = .returned (.agg #[.i (fQ x (-1048576) 1048576),.i (fQ y (-1048576) 1048576)])∧Ext w w':=by
 skip;refine avU func345 ntmps345 fun ac S=>avP fun _ aV=>avQ S 1 [.i x,.i y] fun ac u b2 E3 hb4 S=>avQ S 2 [.i 0,.i 0] fun ac u b5 E6 hb7 S=>apB<|aV _ _<|avP fun _ dS=>adr S 1 [] [(3,.func (.func 357) #[] #[])] fun S=>apB<|dS _ _<|awg fun _ ig=>av3 S 9 [.mem 1 0,.mem 1 1] [(_,_,true,.i (fQ x (-1048576) 1048576)),(_,_,true,.i (fQ y (-1048576) 1048576))] [(12,.agg #[.i (fQ x (-1048576) 1048576),.i (fQ y (-1048576) 1048576)])] ⟨fun u hC g=>av8 (Pv x _),fun u hC g=>av8 (Pv y _),trivial⟩ fun ac u OE S=>avT S 0 (off:=0) (cs:=[.i (fQ x (-1048576) 1048576),.i (fQ y (-1048576) 1048576)]) rfl fun u ZF S=>apB<|ig _ _<|awd S 0 results345 rfl (v := .agg #[.i (fQ x (-1048576) 1048576),.i (fQ y (-1048576) 1048576)]) ?_;exact⟨rfl,S.E⟩
theorem lM(x y:Int)(w:World) :
  Calls prog 319 #[.agg #[.i x,.i y]] w fun e w'=>e = .returned (.bool (kV.valid ⟨x,y⟩))∧Ext w w':=by
 skip;refine avU func319 ntmps319 fun ac S=>avP fun _ aV=>avQ S 1 [.i x,.i y] fun ac u b2 E3 hb4 S=>adr S 1 [] [(2,.z)] fun S=>apB<|aV _ _<|awg fun _ dA=>av3 S 4 [.mem 0 0,.mem 0 0,.cmp .eql 123 (.tmp 4) (.tmp 5) (.agg #[.i (fQ x (-1048576) 1048576),.i (fQ y (-1048576) 1048576)]) (.agg #[.i x,.i y]) (.bool (((fQ x (-1048576) 1048576)==x)&&((fQ y (-1048576) 1048576)==y)))] [(_,_,true,.agg #[.i (fQ x (-1048576) 1048576),.i (fQ y (-1048576) 1048576)])] [(6,.bool (((fQ x (-1048576) 1048576)==x)&&((fQ y (-1048576) 1048576)==y)))] ⟨fun u hC g=>abP x y _,trivial⟩ (hk:=⟨awe (fun _=>eqPt ..) (by kernel_rfl),trivial⟩) fun ac u E6 S=>adr S 1 [] [(2,.bool (((fQ x (-1048576) 1048576)==x)&&((fQ y (-1048576) 1048576)==y)))] fun S=>apB<|dA _ _<|avS S results319 ?_;exact⟨by rw[←Pq],S.E⟩
theorem yw(v:Int)(w:World) :
  Calls prog 284 #[.i v] w fun e w'=>e = .returned (.i (named v))∧w=w':=by
 skip;refine avU func284 ntmps284 fun ac S=>avP fun _ aV=>adr S 1 [] [(2,.i 0)] fun S=>apB<|aV _ _<|avP fun _ fK=>adr S 1 [] [(3,.i 0)] fun S=>apB<|fK _ _<|awg fun _ jC=>avP fun _ nT=>adr S 1 [] [(4,.i v)] fun S=>apB<|nT _ _<|awi<|awg fun _ dA=>awi<|awg fun _ jq=>awi<|awg fun _ jr=>awi<|awg fun _ dS=>awi<|awg fun _ ig=>awi<|awg fun _ dZ=>awg fun _ eG=>avP fun _ dV=>adr S 2 [] [(5,.bool ((v)==4))] fun S=>apB (dV _ _ ?_);refine avR S (fun hc13=>?_) (fun hc13=>?_)
 ·refine awy<|ig _ _<|awk<|adr S 3 [] [(3,.i 1)] fun S=>apB<|dS _ _<|awk<|adr S 3 [] [(3,.i 2)] fun S=>apB<|jr _ _<|avP fun _ gK=>adr S 3 [] [(3,.i 3)] fun S=>apB<|gK _ _<|awy<|jC _ _<|avP fun _ iG=>adr S 2 [] [(2,.i 3)] fun S=>apB<|iG _ _<|awq ?_;have p0:=hc13;try simp only[awE]at p0
  refine av2 S results284 ?_;exact⟨iV (by unfold named; (repeat' split)<;>omega),rfl⟩
 refine awh<|eG _ _<|awg fun _ iR=>avP fun _ gI=>adr S 2 [] [(7,.bool ((v)==3))] fun S=>apB (gI _ _ ?_);refine avR S (fun hc18=>?_) (fun hc18=>?_)
 ·refine awy<|dS _ _<|awk<|adr S 3 [] [(3,.i 1)] fun S=>apB<|jr _ _<|avP fun _ lY=>adr S 3 [] [(3,.i 2)] fun S=>apB<|lY _ _<|awy<|jC _ _<|avP fun _ l9=>adr S 2 [] [(2,.i 2)] fun S=>apB<|l9 _ _<|awq ?_;have p0:=hc13;try simp only[awI,ne_eq]at p0
  have p1:=hc18;try simp only[awE]at p1
  refine av2 S results284 ?_;exact⟨iV (by unfold named; (repeat' split)<;>omega),rfl⟩
 refine awh<|iR _ _<|awg fun _ oz=>awg fun _ jm=>avP fun _ mQ=>adr S 2 [] [(9,.bool ((v)==1))] fun S=>apB (mQ _ _ ?_);refine avR S (fun hc24=>?_) (fun hc24=>?_)
 ·refine awh<|jm _ _ ?_;refine avR S (fun hc25=>?_) (fun hc25=>?_)
  ·refine awy<|jr _ _<|avP fun _ jd=>adr S 3 [] [(3,.i 1)] fun S=>apB<|jd _ _<|awy<|jC _ _<|avP fun _ mV=>adr S 2 [] [(2,.i 1)] fun S=>apB<|mV _ _<|awq ?_;have p0:=hc13;try simp only[awI,ne_eq]at p0
   have p1:=hc18;try simp only[awI,ne_eq]at p1
   have p2:=hc24;try simp only[awE]at p2
   have p3:=hc25;try simp only[awE]at p3
   refine av2 S results284 ?_;exact⟨iV (by unfold named; (repeat' split)<;>omega),rfl⟩
  refine awh<|oz _ _<|avP fun _ qh=>adr S 2 [] [(12,.bool ((v)==5))] fun S=>apB (qh _ _ ?_);refine avR S (fun hc29=>?_) (fun hc29=>?_)
  ·refine awy<|jq _ _<|awy<|jC _ _<|avP fun _ kM=>adr S 2 [] [(2,.i 0)] fun S=>apB<|kM _ _<|awq ?_;have p0:=hc13;try simp only[awI,ne_eq]at p0
   have p1:=hc18;try simp only[awI,ne_eq]at p1
   have p2:=hc24;try simp only[awE]at p2
   have p3:=hc25;try simp only[awI,ne_eq]at p3
   have p4:=hc29;try simp only[awE]at p4
   refine av2 S results284 ?_;exact⟨iV (by unfold named; (repeat' split)<;>omega),rfl⟩
  refine awh<|dZ _ _<|awy<|dA _ _<|awg fun _ rH=>avP fun _ jM=>adr S 1 [] [(2,.i (-1))] fun S=>apB<|jM _ _<|awq ?_;have p0:=hc13;try simp only[awI,ne_eq]at p0
  have p1:=hc18;try simp only[awI,ne_eq]at p1
  have p2:=hc24;try simp only[awE]at p2
  have p3:=hc25;try simp only[awI,ne_eq]at p3
  have p4:=hc29;try simp only[awI,ne_eq]at p4
  refine av2 S results284 ?_;exact⟨iV (by unfold named; (repeat' split)<;>omega),rfl⟩
 refine awk<|adr S 2 [] [(9,.bool ((v)==2))] fun S=>apB (jm _ _ ?_);refine avR S (fun Au=>?_) (fun Au=>?_)
 ·refine awy<|jr _ _<|avP fun _ qU=>adr S 3 [] [(3,.i 1)] fun S=>apB<|qU _ _<|awy<|jC _ _<|avP fun _ oD=>adr S 2 [] [(2,.i 1)] fun S=>apB<|oD _ _<|awq ?_;have p0:=hc13;try simp only[awI,ne_eq]at p0
  have p1:=hc18;try simp only[awI,ne_eq]at p1
  have p2:=hc24;try simp only[awI,ne_eq]at p2
  have p3:=Au;try simp only[awE]at p3
  refine av2 S results284 ?_;exact⟨iV (by unfold named; (repeat' split)<;>omega),rfl⟩
 refine awh<|oz _ _<|avP fun _ lg=>adr S 2 [] [(12,.bool ((v)==5))] fun S=>apB (lg _ _ ?_);refine avR S (fun Ea=>?_) (fun Ea=>?_)
 ·refine awy<|jq _ _<|awy<|jC _ _<|avP fun _ jD=>adr S 2 [] [(2,.i 0)] fun S=>apB<|jD _ _<|awq ?_;have p0:=hc13;try simp only[awI,ne_eq]at p0
  have p1:=hc18;try simp only[awI,ne_eq]at p1
  have p2:=hc24;try simp only[awI,ne_eq]at p2
  have p3:=Au;try simp only[awI,ne_eq]at p3
  have p4:=Ea;try simp only[awE]at p4
  refine av2 S results284 ?_;exact⟨iV (by unfold named; (repeat' split)<;>omega),rfl⟩
 refine awh<|dZ _ _<|awy<|dA _ _<|awg fun _ nR=>avP fun _ qO=>adr S 1 [] [(2,.i (-1))] fun S=>apB<|qO _ _<|awq ?_;have p0:=hc13;try simp only[awI,ne_eq]at p0
 have p1:=hc18;try simp only[awI,ne_eq]at p1
 have p2:=hc24;try simp only[awI,ne_eq]at p2
 have p3:=Au;try simp only[awI,ne_eq]at p3
 have p4:=Ea;try simp only[awI,ne_eq]at p4
 refine av2 S results284 ?_;exact⟨iV (by unfold named; (repeat' split)<;>omega),rfl⟩
theorem fits_any(s:dO)(w:World) :
  Calls prog 285 #[.agg #[.i s.verb,.i s.a.x,.i s.a.y,.i s.b.x,.i s.b.y,.i s.c.x,.i s.c.y]] w fun e w'=>e = .returned (.bool s.fits)∧Ext w w':=by
 skip;refine avU func285 ntmps285 fun ac S=>avP fun _ aV=>avQ S 1 s.cells fun ac u b2 E3 hb4 S=>adr S 1 [] [(2,.z)] fun S=>apB<|aV _ _<|awg fun _ dA=>avP fun _ jq=>adr S 6 [.mem 0 1,.mem 0 3,.mem 0 5] [(6,.agg #[.i s.a.x,.i s.a.y]),(8,.agg #[.i s.b.x,.i s.b.y]),(10,.agg #[.i s.c.x,.i s.c.y])] fun S=>awc S 11 3 [.i s.a.x,.i s.a.y,.i s.b.x,.i s.b.y,.i s.c.x,.i s.c.y] fun ac u b7 E8 hb9 S=>adr S 2 [] [(12,.i 3),(13,.i 0)] fun S=>apB<|jq _ _<|awi<|axk 4 ?_;rw[awv];refine avP fun _ dZ=>adr S 1 [] [(14,.bool true)] fun S=>apB<|dZ _ _<|awg fun _ eG=>avX S<|awh<|eG _ _<|awg fun _ dV=>awi<|avP fun _ gW=>adr S 3 [.mem 0 0] [(15,.i 0),(17,.agg #[.i s.a.x,.i s.a.y])] fun S=>avQ S 4 [.i 0,.i 0] fun ac u b14 Lm hb16 S=>adr S 1 [] [(3,.i 0)] fun S=>avT S 0 (off:=0) (cs:=[.i s.a.x,.i s.a.y]) rfl fun u C17 S=>apB<|gW _ _<|avP fun _ iZ=>adr S 1 [.mem 0 0] [(18,.agg #[.i s.a.x,.i s.a.y])] fun S=>avZ S 19 (lM (s.a.x) (s.a.y) _) fun ac u Ep S=>av9 S 13 [.mem 2 0,.mem 0 0,.cmp .neq 123 (.tmp 28) (.tmp 29) (.agg #[.i s.a.x,.i s.a.y]) (.agg #[.i 0,.i 0]) (.bool (!((s.a.x==0)&&(s.a.y==0))))] [(_,_,(!(!(kV.valid ⟨s.a.x,s.a.y⟩))),.i (named s.verb))] [(32,.bool ((!(kV.valid ⟨s.a.x,s.a.y⟩))||((decide ((named s.verb)≤0))&&(!((s.a.x==0)&&(s.a.y==0))))))] ⟨fun u hC g=>av8 (yw (s.verb) _),trivial⟩ (hk:=⟨awe (fun _=>ah5 ..) (by kernel_rfl),trivial⟩) fun ac u uV S=>apB (iZ _ _ ?_);refine avR S (fun hc21=>?_) (fun hc21=>?_)
 ·refine avP fun _ jm=>adr S 1 [] [(2,.z)] fun S=>apB<|jm _ _<|awq ?_;have g0:wB s.verb 0 s.a=false:=by
   have hh:=hc21;show(kV.valid ⟨s.a.x,s.a.y⟩ && !(decide (named s.verb≤0) && !((s.a.x==0)&&(s.a.y==0))))=_;revert hh;cases kV.valid ⟨s.a.x,s.a.y⟩<;>cases decide (named s.verb≤0)<;>cases ((s.a.x==0)&&(s.a.y==0))<;>simp
  refine av2 S results285 ?_;exact⟨by rw[show s.fits=false from by simp[dO.fits,g0]],S.E⟩
 refine awh<|dV _ _<|awk<|adr S 2 [] [(13,.i 1)] fun S=>apB ?_;show Code.rounds _ _ _ 3 _ _;rw[awv];refine avP fun _ mQ=>adr S 1 [] [(14,.bool true)] fun S=>apB<|mQ _ _<|awg fun _ kU=>avX S<|awh<|kU _ _<|awg fun _ oI=>awi<|avP fun _ jd=>adr S 3 [.mem 1 2] [(15,.i 1),(17,.agg #[.i s.b.x,.i s.b.y])] fun S=>avQ S 4 [.i 0,.i 0] fun ac u b27 KY Oy S=>adr S 1 [] [(3,.i 1)] fun S=>avT S 0 (off:=0) (cs:=[.i s.b.x,.i s.b.y]) rfl fun u ZG S=>apB<|jd _ _<|avP fun _ rH=>adr S 1 [.mem 0 0] [(18,.agg #[.i s.b.x,.i s.b.y])] fun S=>avZ S 19 (lM (s.b.x) (s.b.y) _) fun ac u E32 S=>av9 S 13 [.mem 3 0,.mem 0 0,.cmp .neq 123 (.tmp 28) (.tmp 29) (.agg #[.i s.b.x,.i s.b.y]) (.agg #[.i 0,.i 0]) (.bool (!((s.b.x==0)&&(s.b.y==0))))] [(_,_,(!(!(kV.valid ⟨s.b.x,s.b.y⟩))),.i (named s.verb))] [(32,.bool ((!(kV.valid ⟨s.b.x,s.b.y⟩))||((decide ((named s.verb)≤1))&&(!((s.b.x==0)&&(s.b.y==0))))))] ⟨fun u hC g=>av8 (yw (s.verb) _),trivial⟩ (hk:=⟨awe (fun _=>ah5 ..) (by kernel_rfl),trivial⟩) fun ac u E33 S=>apB (rH _ _ ?_);refine avR S (fun hc34=>?_) (fun hc34=>?_)
 ·refine avP fun _ oD=>adr S 1 [] [(2,.z)] fun S=>apB<|oD _ _<|awq ?_;have g0:wB s.verb 0 s.a=true:=by
   have hh:=hc21;show(kV.valid ⟨s.a.x,s.a.y⟩ && !(decide (named s.verb≤0) && !((s.a.x==0)&&(s.a.y==0))))=_;revert hh;cases kV.valid ⟨s.a.x,s.a.y⟩<;>cases decide (named s.verb≤0)<;>cases ((s.a.x==0)&&(s.a.y==0))<;>simp
  have g1:wB s.verb 1 s.b=false:=by
   have hh:=hc34;show(kV.valid ⟨s.b.x,s.b.y⟩ && !(decide (named s.verb≤1) && !((s.b.x==0)&&(s.b.y==0))))=_;revert hh;cases kV.valid ⟨s.b.x,s.b.y⟩<;>cases decide (named s.verb≤1)<;>cases ((s.b.x==0)&&(s.b.y==0))<;>simp
  refine av2 S results285 ?_;exact⟨by rw[show s.fits=false from by simp[dO.fits,g0,g1]],S.E⟩
 refine awh<|oI _ _<|awk<|adr S 2 [] [(13,.i 2)] fun S=>apB ?_;show Code.rounds _ _ _ 2 _ _;rw[awv];refine avP fun _ lg=>adr S 1 [] [(14,.bool true)] fun S=>apB<|lg _ _<|awg fun _ nV=>avX S<|awh<|nV _ _<|awg fun _ jD=>awi<|avP fun _ nR=>adr S 3 [.mem 2 4] [(15,.i 2),(17,.agg #[.i s.c.x,.i s.c.y])] fun S=>avQ S 4 [.i 0,.i 0] fun ac u b40 Iw apK S=>adr S 1 [] [(3,.i 2)] fun S=>avT S 0 (off:=0) (cs:=[.i s.c.x,.i s.c.y]) rfl fun u Rk S=>apB<|nR _ _<|avP fun _ BQ=>adr S 1 [.mem 0 0] [(18,.agg #[.i s.c.x,.i s.c.y])] fun S=>avZ S 19 (lM (s.c.x) (s.c.y) _) fun ac u E45 S=>av9 S 13 [.mem 4 0,.mem 0 0,.cmp .neq 123 (.tmp 28) (.tmp 29) (.agg #[.i s.c.x,.i s.c.y]) (.agg #[.i 0,.i 0]) (.bool (!((s.c.x==0)&&(s.c.y==0))))] [(_,_,(!(!(kV.valid ⟨s.c.x,s.c.y⟩))),.i (named s.verb))] [(32,.bool ((!(kV.valid ⟨s.c.x,s.c.y⟩))||((decide ((named s.verb)≤2))&&(!((s.c.x==0)&&(s.c.y==0))))))] ⟨fun u hC g=>av8 (yw (s.verb) _),trivial⟩ (hk:=⟨awe (fun _=>ah5 ..) (by kernel_rfl),trivial⟩) fun ac u E46 S=>apB (BQ _ _ ?_);refine avR S (fun hc47=>?_) (fun hc47=>?_)
 ·refine avP fun _ sO=>adr S 1 [] [(2,.z)] fun S=>apB<|sO _ _<|awq ?_;have g0:wB s.verb 0 s.a=true:=by
   have hh:=hc21;show(kV.valid ⟨s.a.x,s.a.y⟩ && !(decide (named s.verb≤0) && !((s.a.x==0)&&(s.a.y==0))))=_;revert hh;cases kV.valid ⟨s.a.x,s.a.y⟩<;>cases decide (named s.verb≤0)<;>cases ((s.a.x==0)&&(s.a.y==0))<;>simp
  have g1:wB s.verb 1 s.b=true:=by
   have hh:=hc34;show(kV.valid ⟨s.b.x,s.b.y⟩ && !(decide (named s.verb≤1) && !((s.b.x==0)&&(s.b.y==0))))=_;revert hh;cases kV.valid ⟨s.b.x,s.b.y⟩<;>cases decide (named s.verb≤1)<;>cases ((s.b.x==0)&&(s.b.y==0))<;>simp
  have g2:wB s.verb 2 s.c=false:=by
   have hh:=hc47;show(kV.valid ⟨s.c.x,s.c.y⟩ && !(decide (named s.verb≤2) && !((s.c.x==0)&&(s.c.y==0))))=_;revert hh;cases kV.valid ⟨s.c.x,s.c.y⟩<;>cases decide (named s.verb≤2)<;>cases ((s.c.x==0)&&(s.c.y==0))<;>simp
  refine av2 S results285 ?_;exact⟨by rw[show s.fits=false from by simp[dO.fits,g0,g1,g2]],S.E⟩
 refine awh<|jD _ _<|awk<|adr S 2 [] [(13,.i 3)] fun S=>apB ?_;show Code.rounds _ _ _ 1 _ _;rw[awv];refine avP fun _ uU=>adr S 1 [] [(14,.z)] fun S=>apB<|uU _ _<|awg fun _ sS=>av4 S<|awy<|dA _ _<|avP fun _ ES=>adr S 1 [] [(2,.bool true)] fun S=>apB<|ES _ _<|awq ?_;have g0:wB s.verb 0 s.a=true:=by
  have hh:=hc21;show(kV.valid ⟨s.a.x,s.a.y⟩ && !(decide (named s.verb≤0) && !((s.a.x==0)&&(s.a.y==0))))=_;revert hh;cases kV.valid ⟨s.a.x,s.a.y⟩<;>cases decide (named s.verb≤0)<;>cases ((s.a.x==0)&&(s.a.y==0))<;>simp
 have g1:wB s.verb 1 s.b=true:=by
  have hh:=hc34;show(kV.valid ⟨s.b.x,s.b.y⟩ && !(decide (named s.verb≤1) && !((s.b.x==0)&&(s.b.y==0))))=_;revert hh;cases kV.valid ⟨s.b.x,s.b.y⟩<;>cases decide (named s.verb≤1)<;>cases ((s.b.x==0)&&(s.b.y==0))<;>simp
 have g2:wB s.verb 2 s.c=true:=by
  have hh:=hc47;show(kV.valid ⟨s.c.x,s.c.y⟩ && !(decide (named s.verb≤2) && !((s.c.x==0)&&(s.c.y==0))))=_;revert hh;cases kV.valid ⟨s.c.x,s.c.y⟩<;>cases decide (named s.verb≤2)<;>cases ((s.c.x==0)&&(s.c.y==0))<;>simp
 refine av2 S results285 ?_;exact⟨by rw[show s.fits=true from by simp[dO.fits,g0,g1,g2]],S.E⟩
open Go.RowKit
variable{α:Type}
theorem abQ{x:dO}{last:Int}(h:decide (named x.verb<0)=true):x.err last=2:=awl (awz h)
theorem Yu{x:dO}{last:Int}(h:decide (named x.verb<0)=false)(h1:(!x.stands last)=true):x.err last=10:=by
 unfold dO.err; rw[awj (awG h),awl (by simpa using h1)]
theorem abR{x:dO}{last:Int}(h:decide (named x.verb<0)=false)(h1:(!x.stands last)=false)(h2:(!x.fits)=true):x.err last=6:=by
 unfold dO.err; rw[awj (awG h),awj (by simpa using h1),awl (by simpa using h2)]
theorem abS{x:dO}{last:Int}(h:decide (named x.verb<0)=false)(h1:(!x.stands last)=false)(h2:(!x.fits)=false):x.err last=0:=by
 unfold dO.err; rw[awj (awG h),awj (by simpa using h1),awj (by simpa using h2)]
theorem IX{w:World}{v:Value}{l:List dO}(h:xH w v l) :
  Calls prog 243 #[v] w fun e w'=>e = .returned (.tuple #[.i (gG l).1,.i (gG l).2])∧Ext w w':=by
 obtain⟨a,cap,rfl⟩:=h.1.shape;have hmax:l.length≤9223372036854775807:=h.1.len;refine avU func243 ntmps243 fun ac S=>avP fun _ aV=>adr S 2 [] [(2,.i 0),(3,.i 0)] fun S=>apB<|aV _ _<|awg fun _ fK=>avP fun _ jC=>adr S 3 [] [(10,.bool (256<(l.length:Int)))] fun S=>apB (jC _ _ ?_);refine avR S (fun hc4=>?_) (fun hc4=>?_)
 ·refine avP fun _ dA=>adr S 2 [] [(2,.i 5),(3,.i 256)] fun S=>apB<|dA _ _<|awq ?_;have p0:256<(l.length:Int):=awz hc4;refine Sx.uq S results243 ?_;have e:gG l=(5,256):=by unfold gG; rw[awl p0]
  exact⟨by rw[e],S.E⟩
 refine awh<|fK _ _<|avP fun _ jq=>adr S 1 [] [(4,.i 5)] fun S=>apB<|jq _ _<|awg fun _ jr=>avP fun _ dS=>adr S 3 [] [(11,.slice a l.length cap),(12,.i l.length),(13,.i 0)] fun S=>apB<|dS _ _<|awi ?_;refine awS (ι:=Nat×Int) (fun p a' w'=>p.1≤l.length∧(sF 5 0 l=sF p.2 (p.1:Int) (l.drop p.1))∧Sx.St w a' w' 52 [(0,.slice a l.length cap),(2,.i 0),(3,.i 0),(4,.i p.2),(11,.slice a l.length cap),(12,.i l.length),(13,.i p.1)] [] []) (fun p=>l.length-p.1) (0,5) ⟨awt _,rfl,S.sn⟩ ?_;rintro⟨k,last⟩ ac u hI;try dsimp only at hI
 obtain⟨hk,hR,S⟩:=hI;refine avP fun _ ig=>adr S 1 [] [(14,.bool ((k:Int)<(l.length:Int)))] fun S=>apB<|ig _ _<|awg (fun _ dZ=>?_);refine avR S (fun iT=>?_) (fun iT=>?_)
 ·refine awh<|dZ _ _<|awg fun _ dV=>awi<|avP (fun _ gW=>?_);have oC:k<l.length:=by have:=awz iT; omega
  obtain⟨b14,o15,rfl,x20,vg,xg,KT⟩:=awN h.1 (fun _=>rfl) (k) oC;have S:=S.view0 xg KT;refine adr S 3 [.idx k l.length,.mem 0 0] [(15,.i k),(17,.agg x20.cells.toArray)] (hk:=⟨oC,trivial⟩) fun S=>avQ S 6 [.i 0,.i 0,.i 0,.i 0,.i 0,.i 0,.i 0] fun ac u b22 SL aew S=>adr S 1 [] [(5,.i k)] fun S=>avT S 0 (off:=0) (cs:=x20.cells) rfl fun u KN S=>apB<|gW _ _<|avP fun _ jd=>adr S 17 [.mem 0 0,.mem 0 0] [(7,.bool (((x20.verb)==1)||(((last) != 5)&&(((x20.verb) != 5)||((last) != 1)))))] fun S=>apB<|jd _ _<|awg fun _ mV=>awi<|avP fun _ qh=>adr S 2 [.mem 0 0] [(36,.i x20.verb)] fun S=>Sx.calls S 37 (yw (x20.verb) _) fun ac S=>adr S 2 [] [(34,.bool ((named x20.verb)<0))] fun S=>apB (qh _ _ ?_);refine avR S (fun hc29=>?_) (fun hc29=>?_)
  ·refine avP fun _ kM=>adr S 3 [] [(2,.i 2),(3,.i k)] fun S=>apB<|kM _ _<|awq ?_;have herr:x20.err last=2:=abQ hc29;have p0:¬256<(l.length:Int):=awG hc4;refine Sx.uq S results243 ?_;have e:gG l=(2,(k:Int)):=by
    unfold gG;rw[awj (by omega),hR,axz oC,vg,sF,herr];rfl
   exact⟨by rw[e],S.E⟩
  refine avP fun _ rH=>adr S 3 [] [(40,.bool (!(((x20.verb)==1)||(((last) != 5)&&(((x20.verb) != 5)||((last) != 1))))))] fun S=>apB (rH _ _ ?_);refine avR S (fun hc32=>?_) (fun hc32=>?_)
  ·refine avP fun _ jO=>adr S 3 [] [(2,.i 10),(3,.i k)] fun S=>apB<|jO _ _<|awq ?_;have herr:x20.err last=10:=Yu hc29 hc32;have p0:¬256<(l.length:Int):=awG hc4;refine Sx.uq S results243 ?_;have e:gG l=(10,(k:Int)):=by
    unfold gG;rw[awj (by omega),hR,axz oC,vg,sF,herr];rfl
   exact⟨by rw[e],S.E⟩
  refine avP fun _ qU=>adr S 1 [.mem 0 0] [(45,.agg x20.cells.toArray)] fun S=>avZ S 46 (fits_any x20 _) fun ac u KZ S=>adr S 2 [] [(44,.bool (!x20.fits))] fun S=>apB (qU _ _ ?_);refine avR S (fun qQ=>?_) (fun qQ=>?_)
  ·refine avP fun _ nV=>adr S 3 [] [(2,.i 6),(3,.i k)] fun S=>apB<|nV _ _<|awq ?_;have herr:x20.err last=6:=abR hc29 hc32 qQ;have p0:¬256<(l.length:Int):=awG hc4;refine Sx.uq S results243 ?_;have e:gG l=(6,(k:Int)):=by
    unfold gG;rw[awj (by omega),hR,axz oC,vg,sF,herr];rfl
   exact⟨by rw[e],S.E⟩
  refine awh<|mV _ _<|awk<|adr S 3 [.mem 0 0] [(4,.i x20.verb)] fun S=>apB<|dV _ _<|awk<|adr S 2 [.re 51 (.i (IntKind.i64.wrap ((k:Int)+1))) (.i (k+1:Nat))] [(13,.i (k+1:Nat))] (hk:=⟨av5 (by omega),trivial⟩) fun S=>apB ?_;show ∃i',_∧_;have herr:x20.err last=0:=abS hc29 hc32 qQ;rw[axz oC,vg,sF,awl herr]at hR;exact⟨((k+1),x20.verb),⟨by omega,hR,(S.sub [(0,.slice (some ⟨b14,o15,none⟩) l.length cap),(2,.i 0),(3,.i 0),(4,.i x20.verb),(11,.slice (some ⟨b14,o15,none⟩) l.length cap),(12,.i l.length),(13,.i (k+1:Nat))]).jI.iW 1⟩,by show _-_<_-_; omega⟩
 refine awy<|jr _ _<|avP fun _ jD=>adr S 2 [] [(2,.i 0),(3,.i 0)] fun S=>apB<|jD _ _<|awq ?_;have p0:¬256<(l.length:Int):=awG hc4;have p1:¬(k:Int)<(l.length:Int):=awG iT;refine Sx.uq S results243 ?_;have e:gG l=(0,0):=by
  unfold gG;rw[awj (by omega),hR,axR (by omega)];rfl
 exact⟨by rw[e],S.E⟩
theorem yU{w:World}{v:Value}{l:List dO}(h:xH w v l) :
  Calls prog 189 #[v] w fun e w'=>e = .returned (.bool (kE l))∧Ext w w':=by
 skip;refine avU func189 ntmps189 fun ac S=>avP fun _ aV=>adr S 1 [] [(2,.z)] fun S=>apB<|aV _ _<|avP fun _ fK=>adr S 1 [] [(6,v)] fun S=>avZ S 7 (IX (h.below S.E)) fun ac u E3 S=>adr S 5 [] [(3,.i ((gG l).1))] fun S=>apB<|fK _ _<|avP fun _ nT=>adr S 3 [] [(2,.bool (((gG l).1)==0))] fun S=>apB<|nT _ _<|avS S results189 ?_;exact⟨rfl,S.E⟩
end Go.Proofs.YtapmgonflgahbaaGreatDoor
