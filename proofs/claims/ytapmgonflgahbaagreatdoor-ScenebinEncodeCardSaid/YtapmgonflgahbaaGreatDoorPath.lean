/- Walks of packages intmath, vec and path: what the checks of a path answer. -/
import Derived.Test.YtapmgonflgahbaaGreatDoorPk12
import Derived.LoopN
set_option linter.unusedVariables false
set_option maxHeartbeats 1600000
set_option maxRecDepth 100000
namespace Go.Proofs.YtapmgonflgahbaaGreatDoor
open _root_.Go.Proofs.Tryz
open Go.RowKit
variable{α:Type}
def gU(n lo hi:Int):Int:=if n<lo then lo else if hi<n then hi else n
theorem N9(x y:Int):((gU x (-1048576) 1048576==x)&&(gU y (-1048576) 1048576==y))=kU.valid ⟨x,y⟩:=by
 have h:∀z:Int,(gU z (-1048576) 1048576==z)=cok z:=by
  intro z;rw[aoR];unfold gU cok;simp only[aoo,aoq,aov];(repeat' split)<;>omega
 rw[h,h]; rfl
theorem WB(n lo hi:Int)(w:World) :
  Calls prog 359 #[.i n,.i lo,.i hi] w fun e w'=>e = .returned (.i (gU n lo hi))∧w=w':=by
 skip;refine anA func359 ntmps359 fun ac S=>anv fun _ aS=>adr S 1 [] [(6,.i 0)] fun S=>anu<|aS _ _<|anV fun _ eP=>an1<|anv fun _ jv=>adr S 4 [] [(7,.bool (n<lo))] fun S=>anu (jv _ _ ?_);refine anx S (fun hc4=>?_) (fun hc4=>?_)
 ·refine anv fun _ bM=>adr S 2 [] [(6,.i lo)] fun S=>anu<|bM _ _<|an2 ?_;have p0:=hc4;try simp only[aov]at p0
  refine anD S results359 ?_;exact⟨dV (by unfold gU; (repeat' split)<;>omega),rfl⟩
 refine anv fun _ iL=>adr S 4 [] [(12,.bool (hi<n))] fun S=>anu (iL _ _ ?_);refine anx S (fun mG=>?_) (fun mG=>?_)
 ·refine anv fun _ eu=>adr S 2 [] [(6,.i hi)] fun S=>anu<|eu _ _<|an2 ?_;have p0:=hc4;try simp only[ao3]at p0
  have p1:=mG;try simp only[aov]at p1
  refine anD S results359 ?_;exact⟨dV (by unfold gU; (repeat' split)<;>omega),rfl⟩
 refine anZ<|eP _ _<|anv fun _ ig=>adr S 2 [] [(6,.i n)] fun S=>anu<|ig _ _<|an2 ?_;have p0:=hc4;try simp only[ao3]at p0
 have p1:=mG;try simp only[ao3]at p1
 refine anD S results359 ?_;exact⟨dV (by unfold gU; (repeat' split)<;>omega),rfl⟩
theorem Oa(n:Int)(w:World) :
  Calls prog 357 #[.i n] w fun e w'=>e = .returned (.i (gU n (-1048576) 1048576))∧w=w':=by
 skip;refine anA func357 ntmps357 fun ac S=>anv fun _ aS=>adr S 1 [] [(2,.i 0)] fun S=>anu<|aS _ _<|anv fun _ eP=>adr S 1 [] [(3,.i n)] fun S=>anX S 4 (WB (n) (-1048576) (1048576) _) fun ac S=>adr S 1 [] [(2,.i (gU n (-1048576) (1048576)))] fun S=>anu<|eP _ _<|anz S results357 ?_;exact⟨rfl,rfl⟩
theorem Zu(x y:Int)(w:World) :
  Calls prog 345 #[.agg #[.i x,.i y]] w fun e w'=>e = .returned (.agg #[.i (gU x (-1048576) 1048576),.i (gU y (-1048576) 1048576)])∧Ext w w':=by
 skip;refine anA func345 ntmps345 fun ac S=>anv fun _ aS=>anw S 1 [.i x,.i y] fun ac u b2 E3 hb4 S=>anw S 2 [.i 0,.i 0] fun ac u b5 E6 hb7 S=>anu<|aS _ _<|anv fun _ eu=>adr S 1 [] [(3,.func (.func 357) #[] #[])] fun S=>anu<|eu _ _<|anV fun _ ig=>anI S 9 [.mem 1 0,.mem 1 1] [(_,_,true,.i (gU x (-1048576) 1048576)),(_,_,true,.i (gU y (-1048576) 1048576))] [(12,.agg #[.i (gU x (-1048576) 1048576),.i (gU y (-1048576) 1048576)])] ⟨fun u hC g=>anO (Oa x _),fun u hC g=>anO (Oa y _),trivial⟩ fun ac u X3 S=>anC S 0 (off:=0) (cs:=[.i (gU x (-1048576) 1048576),.i (gU y (-1048576) 1048576)]) rfl fun u C11 S=>anu<|ig _ _<|anS S 0 results345 rfl (v := .agg #[.i (gU x (-1048576) 1048576),.i (gU y (-1048576) 1048576)]) ?_;exact⟨rfl,S.E⟩
theorem lS(x y:Int)(w:World) :
  Calls prog 319 #[.agg #[.i x,.i y]] w fun e w'=>e = .returned (.bool (kU.valid ⟨x,y⟩))∧Ext w w':=by
 skip;refine anA func319 ntmps319 fun ac S=>anv fun _ aS=>anw S 1 [.i x,.i y] fun ac u b2 E3 hb4 S=>adr S 1 [] [(2,.z)] fun S=>anu<|aS _ _<|anV fun _ bM=>anI S 4 [.mem 0 0,.mem 0 0,.cmp .eql 123 (.tmp 4) (.tmp 5) (.agg #[.i (gU x (-1048576) 1048576),.i (gU y (-1048576) 1048576)]) (.agg #[.i x,.i y]) (.bool (((gU x (-1048576) 1048576)==x)&&((gU y (-1048576) 1048576)==y)))] [(_,_,true,.agg #[.i (gU x (-1048576) 1048576),.i (gU y (-1048576) 1048576)])] [(6,.bool (((gU x (-1048576) 1048576)==x)&&((gU y (-1048576) 1048576)==y)))] ⟨fun u hC g=>Zu x y _,trivial⟩ (hk:=⟨anN (fun _=>eqPt ..) (by kernel_rfl),trivial⟩) fun ac u E6 S=>adr S 1 [] [(2,.bool (((gU x (-1048576) 1048576)==x)&&((gU y (-1048576) 1048576)==y)))] fun S=>anu<|bM _ _<|anz S results319 ?_;exact⟨by rw[←N9],S.E⟩
theorem yw(v:Int)(w:World) :
  Calls prog 284 #[.i v] w fun e w'=>e = .returned (.i (named v))∧w=w':=by
 skip;refine anA func284 ntmps284 fun ac S=>anv fun _ aS=>adr S 1 [] [(2,.i 0)] fun S=>anu<|aS _ _<|anv fun _ eP=>adr S 1 [] [(3,.i 0)] fun S=>anu<|eP _ _<|anV fun _ jv=>anv fun _ oq=>adr S 1 [] [(4,.i v)] fun S=>anu<|oq _ _<|an1<|anV fun _ bM=>an1<|anV fun _ iL=>an1<|anV fun _ iZ=>an1<|anV fun _ eu=>an1<|anV fun _ ig=>an1<|anV fun _ eX=>anV fun _ cZ=>anv fun _ dW=>adr S 2 [] [(5,.bool ((v)==4))] fun S=>anu (dW _ _ ?_);refine anx S (fun hc13=>?_) (fun hc13=>?_)
 ·refine aod<|ig _ _<|an3<|adr S 3 [] [(3,.i 1)] fun S=>anu<|eu _ _<|an3<|adr S 3 [] [(3,.i 2)] fun S=>anu<|iZ _ _<|anv fun _ fP=>adr S 3 [] [(3,.i 3)] fun S=>anu<|fP _ _<|aod<|jv _ _<|anv fun _ gQ=>adr S 2 [] [(2,.i 3)] fun S=>anu<|gQ _ _<|an2 ?_;have p0:=hc13;try simp only[aoo]at p0
  refine anD S results284 ?_;exact⟨dV (by unfold named; (repeat' split)<;>omega),rfl⟩
 refine anZ<|cZ _ _<|anV fun _ iM=>anv fun _ gV=>adr S 2 [] [(7,.bool ((v)==3))] fun S=>anu (gV _ _ ?_);refine anx S (fun hc18=>?_) (fun hc18=>?_)
 ·refine aod<|eu _ _<|an3<|adr S 3 [] [(3,.i 1)] fun S=>anu<|iZ _ _<|anv fun _ iU=>adr S 3 [] [(3,.i 2)] fun S=>anu<|iU _ _<|aod<|jv _ _<|anv fun _ jk=>adr S 2 [] [(2,.i 2)] fun S=>anu<|jk _ _<|an2 ?_;have p0:=hc13;try simp only[aog,ne_eq]at p0
  have p1:=hc18;try simp only[aoo]at p1
  refine anD S results284 ?_;exact⟨dV (by unfold named; (repeat' split)<;>omega),rfl⟩
 refine anZ<|iM _ _<|anV fun _ jC=>anV fun _ jA=>anv fun _ qL=>adr S 2 [] [(9,.bool ((v)==1))] fun S=>anu (qL _ _ ?_);refine anx S (fun hc24=>?_) (fun hc24=>?_)
 ·refine anZ<|jA _ _ ?_;refine anx S (fun hc25=>?_) (fun hc25=>?_)
  ·refine aod<|iZ _ _<|anv fun _ jf=>adr S 3 [] [(3,.i 1)] fun S=>anu<|jf _ _<|aod<|jv _ _<|anv fun _ jX=>adr S 2 [] [(2,.i 1)] fun S=>anu<|jX _ _<|an2 ?_;have p0:=hc13;try simp only[aog,ne_eq]at p0
   have p1:=hc18;try simp only[aog,ne_eq]at p1
   have p2:=hc24;try simp only[aoo]at p2
   have p3:=hc25;try simp only[aoo]at p3
   refine anD S results284 ?_;exact⟨dV (by unfold named; (repeat' split)<;>omega),rfl⟩
  refine anZ<|jC _ _<|anv fun _ ni=>adr S 2 [] [(12,.bool ((v)==5))] fun S=>anu (ni _ _ ?_);refine anx S (fun hc29=>?_) (fun hc29=>?_)
  ·refine aod<|iL _ _<|aod<|jv _ _<|anv fun _ mM=>adr S 2 [] [(2,.i 0)] fun S=>anu<|mM _ _<|an2 ?_;have p0:=hc13;try simp only[aog,ne_eq]at p0
   have p1:=hc18;try simp only[aog,ne_eq]at p1
   have p2:=hc24;try simp only[aoo]at p2
   have p3:=hc25;try simp only[aog,ne_eq]at p3
   have p4:=hc29;try simp only[aoo]at p4
   refine anD S results284 ?_;exact⟨dV (by unfold named; (repeat' split)<;>omega),rfl⟩
  refine anZ<|eX _ _<|aod<|bM _ _<|anV fun _ qg=>anv fun _ mZ=>adr S 1 [] [(2,.i (-1))] fun S=>anu<|mZ _ _<|an2 ?_;have p0:=hc13;try simp only[aog,ne_eq]at p0
  have p1:=hc18;try simp only[aog,ne_eq]at p1
  have p2:=hc24;try simp only[aoo]at p2
  have p3:=hc25;try simp only[aog,ne_eq]at p3
  have p4:=hc29;try simp only[aog,ne_eq]at p4
  refine anD S results284 ?_;exact⟨dV (by unfold named; (repeat' split)<;>omega),rfl⟩
 refine an3<|adr S 2 [] [(9,.bool ((v)==2))] fun S=>anu (jA _ _ ?_);refine anx S (fun qY=>?_) (fun qY=>?_)
 ·refine aod<|iZ _ _<|anv fun _ oQ=>adr S 3 [] [(3,.i 1)] fun S=>anu<|oQ _ _<|aod<|jv _ _<|anv fun _ nZ=>adr S 2 [] [(2,.i 1)] fun S=>anu<|nZ _ _<|an2 ?_;have p0:=hc13;try simp only[aog,ne_eq]at p0
  have p1:=hc18;try simp only[aog,ne_eq]at p1
  have p2:=hc24;try simp only[aog,ne_eq]at p2
  have p3:=qY;try simp only[aoo]at p3
  refine anD S results284 ?_;exact⟨dV (by unfold named; (repeat' split)<;>omega),rfl⟩
 refine anZ<|jC _ _<|anv fun _ nD=>adr S 2 [] [(12,.bool ((v)==5))] fun S=>anu (nD _ _ ?_);refine anx S (fun vN=>?_) (fun vN=>?_)
 ·refine aod<|iL _ _<|aod<|jv _ _<|anv fun _ l7=>adr S 2 [] [(2,.i 0)] fun S=>anu<|l7 _ _<|an2 ?_;have p0:=hc13;try simp only[aog,ne_eq]at p0
  have p1:=hc18;try simp only[aog,ne_eq]at p1
  have p2:=hc24;try simp only[aog,ne_eq]at p2
  have p3:=qY;try simp only[aog,ne_eq]at p3
  have p4:=vN;try simp only[aoo]at p4
  refine anD S results284 ?_;exact⟨dV (by unfold named; (repeat' split)<;>omega),rfl⟩
 refine anZ<|eX _ _<|aod<|bM _ _<|anV fun _ qm=>anv fun _ wY=>adr S 1 [] [(2,.i (-1))] fun S=>anu<|wY _ _<|an2 ?_;have p0:=hc13;try simp only[aog,ne_eq]at p0
 have p1:=hc18;try simp only[aog,ne_eq]at p1
 have p2:=hc24;try simp only[aog,ne_eq]at p2
 have p3:=qY;try simp only[aog,ne_eq]at p3
 have p4:=vN;try simp only[aog,ne_eq]at p4
 refine anD S results284 ?_;exact⟨dV (by unfold named; (repeat' split)<;>omega),rfl⟩
theorem fits_any(s:eU)(w:World) :
  Calls prog 285 #[.agg #[.i s.verb,.i s.a.x,.i s.a.y,.i s.b.x,.i s.b.y,.i s.c.x,.i s.c.y]] w fun e w'=>e = .returned (.bool s.fits)∧Ext w w':=by
 skip;refine anA func285 ntmps285 fun ac S=>anv fun _ aS=>anw S 1 s.cells fun ac u b2 E3 hb4 S=>adr S 1 [] [(2,.z)] fun S=>anu<|aS _ _<|anV fun _ bM=>anv fun _ iL=>adr S 6 [.mem 0 1,.mem 0 3,.mem 0 5] [(6,.agg #[.i s.a.x,.i s.a.y]),(8,.agg #[.i s.b.x,.i s.b.y]),(10,.agg #[.i s.c.x,.i s.c.y])] fun S=>anP S 11 3 [.i s.a.x,.i s.a.y,.i s.b.x,.i s.b.y,.i s.c.x,.i s.c.y] fun ac u b7 E8 hb9 S=>adr S 2 [] [(12,.i 3),(13,.i 0)] fun S=>anu<|iL _ _<|an1<|apb 4 ?_;rw[aoj];refine anv fun _ eX=>adr S 1 [] [(14,.bool true)] fun S=>anu<|eX _ _<|anV fun _ cZ=>anH S<|anZ<|cZ _ _<|anV fun _ dW=>an1<|anv fun _ iH=>adr S 3 [.mem 0 0] [(15,.i 0),(17,.agg #[.i s.a.x,.i s.a.y])] fun S=>anw S 4 [.i 0,.i 0] fun ac u b14 Ez hb16 S=>adr S 1 [] [(3,.i 0)] fun S=>anC S 0 (off:=0) (cs:=[.i s.a.x,.i s.a.y]) rfl fun u C17 S=>anu<|iH _ _<|anv fun _ iI=>adr S 1 [.mem 0 0] [(18,.agg #[.i s.a.x,.i s.a.y])] fun S=>anE S 19 (lS (s.a.x) (s.a.y) _) fun ac u Il S=>anK S 13 [.mem 2 0,.mem 0 0,.cmp .neq 123 (.tmp 28) (.tmp 29) (.agg #[.i s.a.x,.i s.a.y]) (.agg #[.i 0,.i 0]) (.bool (!((s.a.x==0)&&(s.a.y==0))))] [(_,_,(!(!(kU.valid ⟨s.a.x,s.a.y⟩))),.i (named s.verb))] [(32,.bool ((!(kU.valid ⟨s.a.x,s.a.y⟩))||((decide ((named s.verb)≤0))&&(!((s.a.x==0)&&(s.a.y==0))))))] ⟨fun u hC g=>anO (yw (s.verb) _),trivial⟩ (hk:=⟨anN (fun _=>WC ..) (by kernel_rfl),trivial⟩) fun ac u Am S=>anu (iI _ _ ?_);refine anx S (fun hc21=>?_) (fun hc21=>?_)
 ·refine anv fun _ jA=>adr S 1 [] [(2,.z)] fun S=>anu<|jA _ _<|an2 ?_;have g0:lF s.verb 0 s.a=false:=by
   have hh:=hc21;show(kU.valid ⟨s.a.x,s.a.y⟩ && !(decide (named s.verb≤0) && !((s.a.x==0)&&(s.a.y==0))))=_;revert hh;cases kU.valid ⟨s.a.x,s.a.y⟩<;>cases decide (named s.verb≤0)<;>cases ((s.a.x==0)&&(s.a.y==0))<;>simp
  refine anD S results285 ?_;exact⟨by rw[show s.fits=false from by simp[eU.fits,g0]],S.E⟩
 refine anZ<|dW _ _<|an3<|adr S 2 [] [(13,.i 1)] fun S=>anu ?_;show Code.rounds _ _ _ 3 _ _;rw[aoj];refine anv fun _ qL=>adr S 1 [] [(14,.bool true)] fun S=>anu<|qL _ _<|anV fun _ jY=>anH S<|anZ<|jY _ _<|anV fun _ uo=>an1<|anv fun _ jf=>adr S 3 [.mem 1 2] [(15,.i 1),(17,.agg #[.i s.b.x,.i s.b.y])] fun S=>anw S 4 [.i 0,.i 0] fun ac u b27 Oc Io S=>adr S 1 [] [(3,.i 1)] fun S=>anC S 0 (off:=0) (cs:=[.i s.b.x,.i s.b.y]) rfl fun u C30 S=>anu<|jf _ _<|anv fun _ qg=>adr S 1 [.mem 0 0] [(18,.agg #[.i s.b.x,.i s.b.y])] fun S=>anE S 19 (lS (s.b.x) (s.b.y) _) fun ac u E32 S=>anK S 13 [.mem 3 0,.mem 0 0,.cmp .neq 123 (.tmp 28) (.tmp 29) (.agg #[.i s.b.x,.i s.b.y]) (.agg #[.i 0,.i 0]) (.bool (!((s.b.x==0)&&(s.b.y==0))))] [(_,_,(!(!(kU.valid ⟨s.b.x,s.b.y⟩))),.i (named s.verb))] [(32,.bool ((!(kU.valid ⟨s.b.x,s.b.y⟩))||((decide ((named s.verb)≤1))&&(!((s.b.x==0)&&(s.b.y==0))))))] ⟨fun u hC g=>anO (yw (s.verb) _),trivial⟩ (hk:=⟨anN (fun _=>WC ..) (by kernel_rfl),trivial⟩) fun ac u E33 S=>anu (qg _ _ ?_);refine anx S (fun hc34=>?_) (fun hc34=>?_)
 ·refine anv fun _ nZ=>adr S 1 [] [(2,.z)] fun S=>anu<|nZ _ _<|an2 ?_;have g0:lF s.verb 0 s.a=true:=by
   have hh:=hc21;show(kU.valid ⟨s.a.x,s.a.y⟩ && !(decide (named s.verb≤0) && !((s.a.x==0)&&(s.a.y==0))))=_;revert hh;cases kU.valid ⟨s.a.x,s.a.y⟩<;>cases decide (named s.verb≤0)<;>cases ((s.a.x==0)&&(s.a.y==0))<;>simp
  have g1:lF s.verb 1 s.b=false:=by
   have hh:=hc34;show(kU.valid ⟨s.b.x,s.b.y⟩ && !(decide (named s.verb≤1) && !((s.b.x==0)&&(s.b.y==0))))=_;revert hh;cases kU.valid ⟨s.b.x,s.b.y⟩<;>cases decide (named s.verb≤1)<;>cases ((s.b.x==0)&&(s.b.y==0))<;>simp
  refine anD S results285 ?_;exact⟨by rw[show s.fits=false from by simp[eU.fits,g0,g1]],S.E⟩
 refine anZ<|uo _ _<|an3<|adr S 2 [] [(13,.i 2)] fun S=>anu ?_;show Code.rounds _ _ _ 2 _ _;rw[aoj];refine anv fun _ nD=>adr S 1 [] [(14,.bool true)] fun S=>anu<|nD _ _<|anV fun _ qK=>anH S<|anZ<|qK _ _<|anV fun _ l7=>an1<|anv fun _ qm=>adr S 3 [.mem 2 4] [(15,.i 2),(17,.agg #[.i s.c.x,.i s.c.y])] fun S=>anw S 4 [.i 0,.i 0] fun ac u b40 E41 aiD S=>adr S 1 [] [(3,.i 2)] fun S=>anC S 0 (off:=0) (cs:=[.i s.c.x,.i s.c.y]) rfl fun u C43 S=>anu<|qm _ _<|anv fun _ zQ=>adr S 1 [.mem 0 0] [(18,.agg #[.i s.c.x,.i s.c.y])] fun S=>anE S 19 (lS (s.c.x) (s.c.y) _) fun ac u E45 S=>anK S 13 [.mem 4 0,.mem 0 0,.cmp .neq 123 (.tmp 28) (.tmp 29) (.agg #[.i s.c.x,.i s.c.y]) (.agg #[.i 0,.i 0]) (.bool (!((s.c.x==0)&&(s.c.y==0))))] [(_,_,(!(!(kU.valid ⟨s.c.x,s.c.y⟩))),.i (named s.verb))] [(32,.bool ((!(kU.valid ⟨s.c.x,s.c.y⟩))||((decide ((named s.verb)≤2))&&(!((s.c.x==0)&&(s.c.y==0))))))] ⟨fun u hC g=>anO (yw (s.verb) _),trivial⟩ (hk:=⟨anN (fun _=>WC ..) (by kernel_rfl),trivial⟩) fun ac u E46 S=>anu (zQ _ _ ?_);refine anx S (fun hc47=>?_) (fun hc47=>?_)
 ·refine anv fun _ wF=>adr S 1 [] [(2,.z)] fun S=>anu<|wF _ _<|an2 ?_;have g0:lF s.verb 0 s.a=true:=by
   have hh:=hc21;show(kU.valid ⟨s.a.x,s.a.y⟩ && !(decide (named s.verb≤0) && !((s.a.x==0)&&(s.a.y==0))))=_;revert hh;cases kU.valid ⟨s.a.x,s.a.y⟩<;>cases decide (named s.verb≤0)<;>cases ((s.a.x==0)&&(s.a.y==0))<;>simp
  have g1:lF s.verb 1 s.b=true:=by
   have hh:=hc34;show(kU.valid ⟨s.b.x,s.b.y⟩ && !(decide (named s.verb≤1) && !((s.b.x==0)&&(s.b.y==0))))=_;revert hh;cases kU.valid ⟨s.b.x,s.b.y⟩<;>cases decide (named s.verb≤1)<;>cases ((s.b.x==0)&&(s.b.y==0))<;>simp
  have g2:lF s.verb 2 s.c=false:=by
   have hh:=hc47;show(kU.valid ⟨s.c.x,s.c.y⟩ && !(decide (named s.verb≤2) && !((s.c.x==0)&&(s.c.y==0))))=_;revert hh;cases kU.valid ⟨s.c.x,s.c.y⟩<;>cases decide (named s.verb≤2)<;>cases ((s.c.x==0)&&(s.c.y==0))<;>simp
  refine anD S results285 ?_;exact⟨by rw[show s.fits=false from by simp[eU.fits,g0,g1,g2]],S.E⟩
 refine anZ<|l7 _ _<|an3<|adr S 2 [] [(13,.i 3)] fun S=>anu ?_;show Code.rounds _ _ _ 1 _ _;rw[aoj];refine anv fun _ yM=>adr S 1 [] [(14,.z)] fun S=>anu<|yM _ _<|anV fun _ yN=>anM S<|aod<|bM _ _<|anv fun _ FP=>adr S 1 [] [(2,.bool true)] fun S=>anu<|FP _ _<|an2 ?_;have g0:lF s.verb 0 s.a=true:=by
  have hh:=hc21;show(kU.valid ⟨s.a.x,s.a.y⟩ && !(decide (named s.verb≤0) && !((s.a.x==0)&&(s.a.y==0))))=_;revert hh;cases kU.valid ⟨s.a.x,s.a.y⟩<;>cases decide (named s.verb≤0)<;>cases ((s.a.x==0)&&(s.a.y==0))<;>simp
 have g1:lF s.verb 1 s.b=true:=by
  have hh:=hc34;show(kU.valid ⟨s.b.x,s.b.y⟩ && !(decide (named s.verb≤1) && !((s.b.x==0)&&(s.b.y==0))))=_;revert hh;cases kU.valid ⟨s.b.x,s.b.y⟩<;>cases decide (named s.verb≤1)<;>cases ((s.b.x==0)&&(s.b.y==0))<;>simp
 have g2:lF s.verb 2 s.c=true:=by
  have hh:=hc47;show(kU.valid ⟨s.c.x,s.c.y⟩ && !(decide (named s.verb≤2) && !((s.c.x==0)&&(s.c.y==0))))=_;revert hh;cases kU.valid ⟨s.c.x,s.c.y⟩<;>cases decide (named s.verb≤2)<;>cases ((s.c.x==0)&&(s.c.y==0))<;>simp
 refine anD S results285 ?_;exact⟨by rw[show s.fits=true from by simp[eU.fits,g0,g1,g2]],S.E⟩
open Go.RowKit
variable{α:Type}
theorem Oe{x:eU}{last:Int}(h:decide (named x.verb<0)=true):x.err last=2:=an6 (aoe h)
theorem Jr{x:eU}{last:Int}(h:decide (named x.verb<0)=false)(h1:(!x.stands last)=true):x.err last=10:=by
 unfold eU.err; rw[an0 (aoi h),an6 (by simpa using h1)]
theorem AX{x:eU}{last:Int}(h:decide (named x.verb<0)=false)(h1:(!x.stands last)=false)(h2:(!x.fits)=true):x.err last=6:=by
 unfold eU.err; rw[an0 (aoi h),an0 (by simpa using h1),an6 (by simpa using h2)]
theorem Og{x:eU}{last:Int}(h:decide (named x.verb<0)=false)(h1:(!x.stands last)=false)(h2:(!x.fits)=false):x.err last=0:=by
 unfold eU.err; rw[an0 (aoi h),an0 (by simpa using h1),an0 (by simpa using h2)]
theorem IE{w:World}{v:Value}{l:List eU}(h:oI w v l) :
  Calls prog 243 #[v] w fun e w'=>e = .returned (.tuple #[.i (dO l).1,.i (dO l).2])∧Ext w w':=by
 obtain⟨a,cap,rfl⟩:=h.1.shape;have hmax:l.length≤9223372036854775807:=h.1.len;refine anA func243 ntmps243 fun ac S=>anv fun _ aS=>adr S 2 [] [(2,.i 0),(3,.i 0)] fun S=>anu<|aS _ _<|anV fun _ eP=>anv fun _ jv=>adr S 3 [] [(10,.bool (256<(l.length:Int)))] fun S=>anu (jv _ _ ?_);refine anx S (fun hc4=>?_) (fun hc4=>?_)
 ·refine anv fun _ bM=>adr S 2 [] [(2,.i 5),(3,.i 256)] fun S=>anu<|bM _ _<|an2 ?_;have p0:256<(l.length:Int):=aoe hc4;refine Sx.qZ S results243 ?_;have e:dO l=(5,256):=by unfold dO; rw[an6 p0]
  exact⟨by rw[e],S.E⟩
 refine anZ<|eP _ _<|anv fun _ iL=>adr S 1 [] [(4,.i 5)] fun S=>anu<|iL _ _<|anV fun _ iZ=>anv fun _ eu=>adr S 3 [] [(11,.slice a l.length cap),(12,.i l.length),(13,.i 0)] fun S=>anu<|eu _ _<|an1 ?_;refine aow (ι:=Nat×Int) (fun p a' w'=>p.1≤l.length∧(mX 5 0 l=mX p.2 (p.1:Int) (l.drop p.1))∧Sx.St w a' w' 52 [(0,.slice a l.length cap),(2,.i 0),(3,.i 0),(4,.i p.2),(11,.slice a l.length cap),(12,.i l.length),(13,.i p.1)] [] []) (fun p=>l.length-p.1) (0,5) ⟨aoa _,rfl,S.sn⟩ ?_;rintro⟨k,last⟩ ac u hI;try dsimp only at hI
 obtain⟨hk,hR,S⟩:=hI;refine anv fun _ ig=>adr S 1 [] [(14,.bool ((k:Int)<(l.length:Int)))] fun S=>anu<|ig _ _<|anV (fun _ eX=>?_);refine anx S (fun jB=>?_) (fun jB=>?_)
 ·refine anZ<|eX _ _<|anV fun _ dW=>an1<|anv (fun _ iH=>?_);have kP:k<l.length:=by have:=aoe jB; omega
  obtain⟨b14,o15,rfl,x20,qJ,wK,CB⟩:=aom h.1 (fun _=>rfl) (k) kP;have S:=S.view0 wK CB;refine adr S 3 [.idx k l.length,.mem 0 0] [(15,.i k),(17,.agg x20.cells.toArray)] (hk:=⟨kP,trivial⟩) fun S=>anw S 6 [.i 0,.i 0,.i 0,.i 0,.i 0,.i 0,.i 0] fun ac u b22 CJ QK S=>adr S 1 [] [(5,.i k)] fun S=>anC S 0 (off:=0) (cs:=x20.cells) rfl fun u X6 S=>anu<|iH _ _<|anv fun _ jf=>adr S 17 [.mem 0 0,.mem 0 0] [(7,.bool (((x20.verb)==1)||(((last) != 5)&&(((x20.verb) != 5)||((last) != 1)))))] fun S=>anu<|jf _ _<|anV fun _ jX=>an1<|anv fun _ ni=>adr S 2 [.mem 0 0] [(36,.i x20.verb)] fun S=>anX S 37 (yw (x20.verb) _) fun ac S=>adr S 2 [] [(34,.bool ((named x20.verb)<0))] fun S=>anu (ni _ _ ?_);refine anx S (fun hc29=>?_) (fun hc29=>?_)
  ·refine anv fun _ mM=>adr S 3 [] [(2,.i 2),(3,.i k)] fun S=>anu<|mM _ _<|an2 ?_;have herr:x20.err last=2:=Oe hc29;have p0:¬256<(l.length:Int):=aoi hc4;refine Sx.qZ S results243 ?_;have e:dO l=(2,(k:Int)):=by
    unfold dO;rw[an0 (by omega),hR,ao2 kP,qJ,mX,herr];rfl
   exact⟨by rw[e],S.E⟩
  refine anv fun _ qg=>adr S 3 [] [(40,.bool (!(((x20.verb)==1)||(((last) != 5)&&(((x20.verb) != 5)||((last) != 1))))))] fun S=>anu (qg _ _ ?_);refine anx S (fun hc32=>?_) (fun hc32=>?_)
  ·refine anv fun _ jO=>adr S 3 [] [(2,.i 10),(3,.i k)] fun S=>anu<|jO _ _<|an2 ?_;have herr:x20.err last=10:=Jr hc29 hc32;have p0:¬256<(l.length:Int):=aoi hc4;refine Sx.qZ S results243 ?_;have e:dO l=(10,(k:Int)):=by
    unfold dO;rw[an0 (by omega),hR,ao2 kP,qJ,mX,herr];rfl
   exact⟨by rw[e],S.E⟩
  refine anv fun _ oQ=>adr S 1 [.mem 0 0] [(45,.agg x20.cells.toArray)] fun S=>anE S 46 (fits_any x20 _) fun ac u J7 S=>adr S 2 [] [(44,.bool (!x20.fits))] fun S=>anu (oQ _ _ ?_);refine anx S (fun vg=>?_) (fun vg=>?_)
  ·refine anv fun _ qK=>adr S 3 [] [(2,.i 6),(3,.i k)] fun S=>anu<|qK _ _<|an2 ?_;have herr:x20.err last=6:=AX hc29 hc32 vg;have p0:¬256<(l.length:Int):=aoi hc4;refine Sx.qZ S results243 ?_;have e:dO l=(6,(k:Int)):=by
    unfold dO;rw[an0 (by omega),hR,ao2 kP,qJ,mX,herr];rfl
   exact⟨by rw[e],S.E⟩
  refine anZ<|jX _ _<|an3<|adr S 3 [.mem 0 0] [(4,.i x20.verb)] fun S=>anu<|dW _ _<|an3<|adr S 2 [.re 51 (.i (IntKind.i64.wrap ((k:Int)+1))) (.i (k+1:Nat))] [(13,.i (k+1:Nat))] (hk:=⟨anJ (by omega),trivial⟩) fun S=>anu ?_;show ∃i',_∧_;have herr:x20.err last=0:=Og hc29 hc32 vg;rw[ao2 kP,qJ,mX,an6 herr]at hR;exact⟨((k+1),x20.verb),⟨by omega,hR,(S.sub [(0,.slice (some ⟨b14,o15,none⟩) l.length cap),(2,.i 0),(3,.i 0),(4,.i x20.verb),(11,.slice (some ⟨b14,o15,none⟩) l.length cap),(12,.i l.length),(13,.i (k+1:Nat))]).lN.gq 1⟩,by show _-_<_-_; omega⟩
 refine aod<|iZ _ _<|anv fun _ l7=>adr S 2 [] [(2,.i 0),(3,.i 0)] fun S=>anu<|l7 _ _<|an2 ?_;have p0:¬256<(l.length:Int):=aoi hc4;have p1:¬(k:Int)<(l.length:Int):=aoi jB;refine Sx.qZ S results243 ?_;have e:dO l=(0,0):=by
  unfold dO;rw[an0 (by omega),hR,apm (by omega)];rfl
 exact⟨by rw[e],S.E⟩
theorem yY{w:World}{v:Value}{l:List eU}(h:oI w v l) :
  Calls prog 189 #[v] w fun e w'=>e = .returned (.bool (iY l))∧Ext w w':=by
 skip;refine anA func189 ntmps189 fun ac S=>anv fun _ aS=>adr S 1 [] [(2,.z)] fun S=>anu<|aS _ _<|anv fun _ eP=>adr S 1 [] [(6,v)] fun S=>anE S 7 (IE (h.below S.E)) fun ac u E3 S=>adr S 5 [] [(3,.i ((dO l).1))] fun S=>anu<|eP _ _<|anv fun _ oq=>adr S 3 [] [(2,.bool (((dO l).1)==0))] fun S=>anu<|oq _ _<|anz S results189 ?_;exact⟨rfl,S.E⟩
end Go.Proofs.YtapmgonflgahbaaGreatDoor
