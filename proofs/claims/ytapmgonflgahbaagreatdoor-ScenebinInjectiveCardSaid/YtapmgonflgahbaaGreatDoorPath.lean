/- Walks of packages intmath, vec and path: what the checks of a path answer. -/
import Derived.Test.YtapmgonflgahbaaGreatDoorPk14
import Derived.LoopN
set_option linter.unusedVariables false
set_option maxHeartbeats 1600000
set_option maxRecDepth 100000
namespace Go.Proofs.YtapmgonflgahbaaGreatDoor
open _root_.Go.Proofs.Tryz
open Go.RowKit
variable{α:Type}
def eu(n lo hi:Int):Int:=if n<lo then lo else if hi<n then hi else n
theorem Jg(x y:Int):((eu x (-1048576) 1048576==x)&&(eu y (-1048576) 1048576==y))=kH.valid ⟨x,y⟩:=by
 have h:∀z:Int,(eu z (-1048576) 1048576==z)=cok z:=by
  intro z;rw[ai4];unfold eu cok;simp only[aiv,aiq,aiz];(repeat' split)<;>omega
 rw[h,h]; rfl
theorem QZ(n lo hi:Int)(w:World) :
  Calls prog 359 #[.i n,.i lo,.i hi] w fun e w'=>e = .returned (.i (eu n lo hi))∧w=w':=by
 skip;refine ahO func359 ntmps359 fun ac S=>ahK fun _ aY=>adr S 1 [] [(6,.i 0)] fun S=>ahJ<|aY _ _<|ah2 fun _ fA=>ah5<|ahK fun _ jw=>adr S 4 [] [(7,.bool (n<lo))] fun S=>ahJ (jw _ _ ?_);refine ahN S (fun hc4=>?_) (fun hc4=>?_)
 ·refine ahK fun _ dw=>adr S 2 [] [(6,.i lo)] fun S=>ahJ<|dw _ _<|aii ?_;have p0:=hc4;try simp only[aiz]at p0
  refine ahU S results359 ?_;exact⟨gy (by unfold eu; (repeat' split)<;>omega),rfl⟩
 refine ahK fun _ iT=>adr S 4 [] [(12,.bool (hi<n))] fun S=>ahJ (iT _ _ ?_);refine ahN S (fun vT=>?_) (fun vT=>?_)
 ·refine ahK fun _ dR=>adr S 2 [] [(6,.i hi)] fun S=>ahJ<|dR _ _<|aii ?_;have p0:=hc4;try simp only[aji]at p0
  have p1:=vT;try simp only[aiz]at p1
  refine ahU S results359 ?_;exact⟨gy (by unfold eu; (repeat' split)<;>omega),rfl⟩
 refine ah4<|fA _ _<|ahK fun _ iD=>adr S 2 [] [(6,.i n)] fun S=>ahJ<|iD _ _<|aii ?_;have p0:=hc4;try simp only[aji]at p0
 have p1:=vT;try simp only[aji]at p1
 refine ahU S results359 ?_;exact⟨gy (by unfold eu; (repeat' split)<;>omega),rfl⟩
theorem Jh(n:Int)(w:World) :
  Calls prog 357 #[.i n] w fun e w'=>e = .returned (.i (eu n (-1048576) 1048576))∧w=w':=by
 skip;refine ahO func357 ntmps357 fun ac S=>ahK fun _ aY=>adr S 1 [] [(2,.i 0)] fun S=>ahJ<|aY _ _<|ahK fun _ fA=>adr S 1 [] [(3,.i n)] fun S=>Sx.calls S 4 (QZ (n) (-1048576) (1048576) _) fun ac S=>adr S 1 [] [(2,.i (eu n (-1048576) (1048576)))] fun S=>ahJ<|fA _ _<|ahM S results357 ?_;exact⟨rfl,rfl⟩
theorem Vw(x y:Int)(w:World) :
  Calls prog 345 #[.agg #[.i x,.i y]] w fun e w'=>e = .returned (.agg #[.i (eu x (-1048576) 1048576),.i (eu y (-1048576) 1048576)])∧Ext w w':=by
 skip;refine ahO func345 ntmps345 fun ac S=>ahK fun _ aY=>ahL S 1 [.i x,.i y] fun ac u b2 E3 hb4 S=>ahL S 2 [.i 0,.i 0] fun ac u b5 E6 hb7 S=>ahJ<|aY _ _<|ahK fun _ dR=>adr S 1 [] [(3,.func (.func 357) #[] #[])] fun S=>ahJ<|dR _ _<|ah2 fun _ iD=>ahW S 9 [.mem 1 0,.mem 1 1] [(_,_,true,.i (eu x (-1048576) 1048576)),(_,_,true,.i (eu y (-1048576) 1048576))] [(12,.agg #[.i (eu x (-1048576) 1048576),.i (eu y (-1048576) 1048576)])] ⟨fun u hC g=>ah0 (Jh x _),fun u hC g=>ah0 (Jh y _),trivial⟩ fun ac u Nw S=>ahP S 0 (off:=0) (cs:=[.i (eu x (-1048576) 1048576),.i (eu y (-1048576) 1048576)]) rfl fun u C11 S=>ahJ<|iD _ _<|Sx.EZ S 0 results345 rfl (v := .agg #[.i (eu x (-1048576) 1048576),.i (eu y (-1048576) 1048576)]) ?_;exact⟨rfl,S.E⟩
theorem jM(x y:Int)(w:World) :
  Calls prog 319 #[.agg #[.i x,.i y]] w fun e w'=>e = .returned (.bool (kH.valid ⟨x,y⟩))∧Ext w w':=by
 skip;refine ahO func319 ntmps319 fun ac S=>ahK fun _ aY=>ahL S 1 [.i x,.i y] fun ac u b2 E3 hb4 S=>adr S 1 [] [(2,.z)] fun S=>ahJ<|aY _ _<|ah2 fun _ dw=>ahW S 4 [.mem 0 0,.mem 0 0,.cmp .eql 123 (.tmp 4) (.tmp 5) (.agg #[.i (eu x (-1048576) 1048576),.i (eu y (-1048576) 1048576)]) (.agg #[.i x,.i y]) (.bool (((eu x (-1048576) 1048576)==x)&&((eu y (-1048576) 1048576)==y)))] [(_,_,true,.agg #[.i (eu x (-1048576) 1048576),.i (eu y (-1048576) 1048576)])] [(6,.bool (((eu x (-1048576) 1048576)==x)&&((eu y (-1048576) 1048576)==y)))] ⟨fun u hC g=>Vw x y _,trivial⟩ (hk:=⟨Sx.fQ (fun _=>eqPt ..) (by kernel_rfl),trivial⟩) fun ac u E6 S=>adr S 1 [] [(2,.bool (((eu x (-1048576) 1048576)==x)&&((eu y (-1048576) 1048576)==y)))] fun S=>ahJ<|dw _ _<|ahM S results319 ?_;exact⟨by rw[←Jg],S.E⟩
theorem uy(v:Int)(w:World) :
  Calls prog 284 #[.i v] w fun e w'=>e = .returned (.i (named v))∧w=w':=by
 skip;refine ahO func284 ntmps284 fun ac S=>ahK fun _ aY=>adr S 1 [] [(2,.i 0)] fun S=>ahJ<|aY _ _<|ahK fun _ fA=>adr S 1 [] [(3,.i 0)] fun S=>ahJ<|fA _ _<|ah2 fun _ jw=>ahK fun _ nT=>adr S 1 [] [(4,.i v)] fun S=>ahJ<|nT _ _<|ah5<|ah2 fun _ dw=>ah5<|ah2 fun _ iT=>ah5<|ah2 fun _ iL=>ah5<|ah2 fun _ dR=>ah5<|ah2 fun _ iD=>ah5<|ah2 fun _ gu=>ah2 fun _ dO=>ahK fun _ fD=>adr S 2 [] [(5,.bool ((v)==4))] fun S=>ahJ (fD _ _ ?_);refine ahN S (fun hc13=>?_) (fun hc13=>?_)
 ·refine ail<|iD _ _<|aia<|adr S 3 [] [(3,.i 1)] fun S=>ahJ<|dR _ _<|aia<|adr S 3 [] [(3,.i 2)] fun S=>ahJ<|iL _ _<|ahK fun _ gU=>adr S 3 [] [(3,.i 3)] fun S=>ahJ<|gU _ _<|ail<|jw _ _<|ahK fun _ iJ=>adr S 2 [] [(2,.i 3)] fun S=>ahJ<|iJ _ _<|aii ?_;have p0:=hc13;try simp only[aiv]at p0
  refine ahU S results284 ?_;exact⟨gy (by unfold named; (repeat' split)<;>omega),rfl⟩
 refine ah4<|dO _ _<|ah2 fun _ jQ=>ahK fun _ iq=>adr S 2 [] [(7,.bool ((v)==3))] fun S=>ahJ (iq _ _ ?_);refine ahN S (fun hc18=>?_) (fun hc18=>?_)
 ·refine ail<|dR _ _<|aia<|adr S 3 [] [(3,.i 1)] fun S=>ahJ<|iL _ _<|ahK fun _ kX=>adr S 3 [] [(3,.i 2)] fun S=>ahJ<|kX _ _<|ail<|jw _ _<|ahK fun _ kP=>adr S 2 [] [(2,.i 2)] fun S=>ahJ<|kP _ _<|aii ?_;have p0:=hc13;try simp only[aiw,ne_eq]at p0
  have p1:=hc18;try simp only[aiv]at p1
  refine ahU S results284 ?_;exact⟨gy (by unfold named; (repeat' split)<;>omega),rfl⟩
 refine ah4<|jQ _ _<|ah2 fun _ mX=>ah2 fun _ kW=>ahK fun _ pR=>adr S 2 [] [(9,.bool ((v)==1))] fun S=>ahJ (pR _ _ ?_);refine ahN S (fun hc24=>?_) (fun hc24=>?_)
 ·refine ah4<|kW _ _ ?_;refine ahN S (fun hc25=>?_) (fun hc25=>?_)
  ·refine ail<|iL _ _<|ahK fun _ jA=>adr S 3 [] [(3,.i 1)] fun S=>ahJ<|jA _ _<|ail<|jw _ _<|ahK fun _ l9=>adr S 2 [] [(2,.i 1)] fun S=>ahJ<|l9 _ _<|aii ?_;have p0:=hc13;try simp only[aiw,ne_eq]at p0
   have p1:=hc18;try simp only[aiw,ne_eq]at p1
   have p2:=hc24;try simp only[aiv]at p2
   have p3:=hc25;try simp only[aiv]at p3
   refine ahU S results284 ?_;exact⟨gy (by unfold named; (repeat' split)<;>omega),rfl⟩
  refine ah4<|mX _ _<|ahK fun _ pO=>adr S 2 [] [(12,.bool ((v)==5))] fun S=>ahJ (pO _ _ ?_);refine ahN S (fun hc29=>?_) (fun hc29=>?_)
  ·refine ail<|iT _ _<|ail<|jw _ _<|ahK fun _ oJ=>adr S 2 [] [(2,.i 0)] fun S=>ahJ<|oJ _ _<|aii ?_;have p0:=hc13;try simp only[aiw,ne_eq]at p0
   have p1:=hc18;try simp only[aiw,ne_eq]at p1
   have p2:=hc24;try simp only[aiv]at p2
   have p3:=hc25;try simp only[aiw,ne_eq]at p3
   have p4:=hc29;try simp only[aiv]at p4
   refine ahU S results284 ?_;exact⟨gy (by unfold named; (repeat' split)<;>omega),rfl⟩
  refine ah4<|gu _ _<|ail<|dw _ _<|ah2 fun _ qj=>ahK fun _ mG=>adr S 1 [] [(2,.i (-1))] fun S=>ahJ<|mG _ _<|aii ?_;have p0:=hc13;try simp only[aiw,ne_eq]at p0
  have p1:=hc18;try simp only[aiw,ne_eq]at p1
  have p2:=hc24;try simp only[aiv]at p2
  have p3:=hc25;try simp only[aiw,ne_eq]at p3
  have p4:=hc29;try simp only[aiw,ne_eq]at p4
  refine ahU S results284 ?_;exact⟨gy (by unfold named; (repeat' split)<;>omega),rfl⟩
 refine aia<|adr S 2 [] [(9,.bool ((v)==2))] fun S=>ahJ (kW _ _ ?_);refine ahN S (fun DK=>?_) (fun DK=>?_)
 ·refine ail<|iL _ _<|ahK fun _ qE=>adr S 3 [] [(3,.i 1)] fun S=>ahJ<|qE _ _<|ail<|jw _ _<|ahK fun _ qF=>adr S 2 [] [(2,.i 1)] fun S=>ahJ<|qF _ _<|aii ?_;have p0:=hc13;try simp only[aiw,ne_eq]at p0
  have p1:=hc18;try simp only[aiw,ne_eq]at p1
  have p2:=hc24;try simp only[aiw,ne_eq]at p2
  have p3:=DK;try simp only[aiv]at p3
  refine ahU S results284 ?_;exact⟨gy (by unfold named; (repeat' split)<;>omega),rfl⟩
 refine ah4<|mX _ _<|ahK fun _ mY=>adr S 2 [] [(12,.bool ((v)==5))] fun S=>ahJ (mY _ _ ?_);refine ahN S (fun zI=>?_) (fun zI=>?_)
 ·refine ail<|iT _ _<|ail<|jw _ _<|ahK fun _ lq=>adr S 2 [] [(2,.i 0)] fun S=>ahJ<|lq _ _<|aii ?_;have p0:=hc13;try simp only[aiw,ne_eq]at p0
  have p1:=hc18;try simp only[aiw,ne_eq]at p1
  have p2:=hc24;try simp only[aiw,ne_eq]at p2
  have p3:=DK;try simp only[aiw,ne_eq]at p3
  have p4:=zI;try simp only[aiv]at p4
  refine ahU S results284 ?_;exact⟨gy (by unfold named; (repeat' split)<;>omega),rfl⟩
 refine ah4<|gu _ _<|ail<|dw _ _<|ah2 fun _ wJ=>ahK fun _ xX=>adr S 1 [] [(2,.i (-1))] fun S=>ahJ<|xX _ _<|aii ?_;have p0:=hc13;try simp only[aiw,ne_eq]at p0
 have p1:=hc18;try simp only[aiw,ne_eq]at p1
 have p2:=hc24;try simp only[aiw,ne_eq]at p2
 have p3:=DK;try simp only[aiw,ne_eq]at p3
 have p4:=zI;try simp only[aiw,ne_eq]at p4
 refine ahU S results284 ?_;exact⟨gy (by unfold named; (repeat' split)<;>omega),rfl⟩
theorem fits_any(s:eG)(w:World) :
  Calls prog 285 #[.agg #[.i s.verb,.i s.a.x,.i s.a.y,.i s.b.x,.i s.b.y,.i s.c.x,.i s.c.y]] w fun e w'=>e = .returned (.bool s.fits)∧Ext w w':=by
 skip;refine ahO func285 ntmps285 fun ac S=>ahK fun _ aY=>ahL S 1 s.cells fun ac u b2 E3 hb4 S=>adr S 1 [] [(2,.z)] fun S=>ahJ<|aY _ _<|ah2 fun _ dw=>ahK fun _ iT=>adr S 6 [.mem 0 1,.mem 0 3,.mem 0 5] [(6,.agg #[.i s.a.x,.i s.a.y]),(8,.agg #[.i s.b.x,.i s.b.y]),(10,.agg #[.i s.c.x,.i s.c.y])] fun S=>ah6 S 11 3 [.i s.a.x,.i s.a.y,.i s.b.x,.i s.b.y,.i s.c.x,.i s.c.y] fun ac u b7 E8 hb9 S=>adr S 2 [] [(12,.i 3),(13,.i 0)] fun S=>ahJ<|iT _ _<|ah5<|ajo 4 ?_;rw[aio];refine ahK fun _ gu=>adr S 1 [] [(14,.bool true)] fun S=>ahJ<|gu _ _<|ah2 fun _ dO=>ahV S<|ah4<|dO _ _<|ah2 fun _ fD=>ah5<|ahK fun _ iI=>adr S 3 [.mem 0 0] [(15,.i 0),(17,.agg #[.i s.a.x,.i s.a.y])] fun S=>ahL S 4 [.i 0,.i 0] fun ac u b14 FX hb16 S=>adr S 1 [] [(3,.i 0)] fun S=>ahP S 0 (off:=0) (cs:=[.i s.a.x,.i s.a.y]) rfl fun u C17 S=>ahJ<|iI _ _<|ahK fun _ jy=>adr S 1 [.mem 0 0] [(18,.agg #[.i s.a.x,.i s.a.y])] fun S=>ahS S 19 (jM (s.a.x) (s.a.y) _) fun ac u Dz S=>Sx.nV S 13 [.mem 2 0,.mem 0 0,.cmp .neq 123 (.tmp 28) (.tmp 29) (.agg #[.i s.a.x,.i s.a.y]) (.agg #[.i 0,.i 0]) (.bool (!((s.a.x==0)&&(s.a.y==0))))] [(_,_,(!(!(kH.valid ⟨s.a.x,s.a.y⟩))),.i (named s.verb))] [(32,.bool ((!(kH.valid ⟨s.a.x,s.a.y⟩))||((decide ((named s.verb)≤0))&&(!((s.a.x==0)&&(s.a.y==0))))))] ⟨fun u hC g=>ah0 (uy (s.verb) _),trivial⟩ (hk:=⟨Sx.fQ (fun _=>abG ..) (by kernel_rfl),trivial⟩) fun ac u Aa S=>ahJ (jy _ _ ?_);refine ahN S (fun hc21=>?_) (fun hc21=>?_)
 ·refine ahK fun _ kW=>adr S 1 [] [(2,.z)] fun S=>ahJ<|kW _ _<|aii ?_;have g0:rO s.verb 0 s.a=false:=by
   have hh:=hc21;show(kH.valid ⟨s.a.x,s.a.y⟩ && !(decide (named s.verb≤0) && !((s.a.x==0)&&(s.a.y==0))))=_;revert hh;cases kH.valid ⟨s.a.x,s.a.y⟩<;>cases decide (named s.verb≤0)<;>cases ((s.a.x==0)&&(s.a.y==0))<;>simp
  refine ahU S results285 ?_;exact⟨by rw[show s.fits=false from by simp[eG.fits,g0]],S.E⟩
 refine ah4<|fD _ _<|aia<|adr S 2 [] [(13,.i 1)] fun S=>ahJ ?_;show Code.rounds _ _ _ 3 _ _;rw[aio];refine ahK fun _ pR=>adr S 1 [] [(14,.bool true)] fun S=>ahJ<|pR _ _<|ah2 fun _ rX=>ahV S<|ah4<|rX _ _<|ah2 fun _ vI=>ah5<|ahK fun _ jA=>adr S 3 [.mem 1 2] [(15,.i 1),(17,.agg #[.i s.b.x,.i s.b.y])] fun S=>ahL S 4 [.i 0,.i 0] fun ac u b27 E28 Ic S=>adr S 1 [] [(3,.i 1)] fun S=>ahP S 0 (off:=0) (cs:=[.i s.b.x,.i s.b.y]) rfl fun u C30 S=>ahJ<|jA _ _<|ahK fun _ qj=>adr S 1 [.mem 0 0] [(18,.agg #[.i s.b.x,.i s.b.y])] fun S=>ahS S 19 (jM (s.b.x) (s.b.y) _) fun ac u E32 S=>Sx.nV S 13 [.mem 3 0,.mem 0 0,.cmp .neq 123 (.tmp 28) (.tmp 29) (.agg #[.i s.b.x,.i s.b.y]) (.agg #[.i 0,.i 0]) (.bool (!((s.b.x==0)&&(s.b.y==0))))] [(_,_,(!(!(kH.valid ⟨s.b.x,s.b.y⟩))),.i (named s.verb))] [(32,.bool ((!(kH.valid ⟨s.b.x,s.b.y⟩))||((decide ((named s.verb)≤1))&&(!((s.b.x==0)&&(s.b.y==0))))))] ⟨fun u hC g=>ah0 (uy (s.verb) _),trivial⟩ (hk:=⟨Sx.fQ (fun _=>abG ..) (by kernel_rfl),trivial⟩) fun ac u E33 S=>ahJ (qj _ _ ?_);refine ahN S (fun hc34=>?_) (fun hc34=>?_)
 ·refine ahK fun _ qF=>adr S 1 [] [(2,.z)] fun S=>ahJ<|qF _ _<|aii ?_;have g0:rO s.verb 0 s.a=true:=by
   have hh:=hc21;show(kH.valid ⟨s.a.x,s.a.y⟩ && !(decide (named s.verb≤0) && !((s.a.x==0)&&(s.a.y==0))))=_;revert hh;cases kH.valid ⟨s.a.x,s.a.y⟩<;>cases decide (named s.verb≤0)<;>cases ((s.a.x==0)&&(s.a.y==0))<;>simp
  have g1:rO s.verb 1 s.b=false:=by
   have hh:=hc34;show(kH.valid ⟨s.b.x,s.b.y⟩ && !(decide (named s.verb≤1) && !((s.b.x==0)&&(s.b.y==0))))=_;revert hh;cases kH.valid ⟨s.b.x,s.b.y⟩<;>cases decide (named s.verb≤1)<;>cases ((s.b.x==0)&&(s.b.y==0))<;>simp
  refine ahU S results285 ?_;exact⟨by rw[show s.fits=false from by simp[eG.fits,g0,g1]],S.E⟩
 refine ah4<|vI _ _<|aia<|adr S 2 [] [(13,.i 2)] fun S=>ahJ ?_;show Code.rounds _ _ _ 2 _ _;rw[aio];refine ahK fun _ mY=>adr S 1 [] [(14,.bool true)] fun S=>ahJ<|mY _ _<|ah2 fun _ mD=>ahV S<|ah4<|mD _ _<|ah2 fun _ lq=>ah5<|ahK fun _ wJ=>adr S 3 [.mem 2 4] [(15,.i 2),(17,.agg #[.i s.c.x,.i s.c.y])] fun S=>ahL S 4 [.i 0,.i 0] fun ac u b40 Z8 afP S=>adr S 1 [] [(3,.i 2)] fun S=>ahP S 0 (off:=0) (cs:=[.i s.c.x,.i s.c.y]) rfl fun u YO S=>ahJ<|wJ _ _<|ahK fun _ Gi=>adr S 1 [.mem 0 0] [(18,.agg #[.i s.c.x,.i s.c.y])] fun S=>ahS S 19 (jM (s.c.x) (s.c.y) _) fun ac u Z4 S=>Sx.nV S 13 [.mem 4 0,.mem 0 0,.cmp .neq 123 (.tmp 28) (.tmp 29) (.agg #[.i s.c.x,.i s.c.y]) (.agg #[.i 0,.i 0]) (.bool (!((s.c.x==0)&&(s.c.y==0))))] [(_,_,(!(!(kH.valid ⟨s.c.x,s.c.y⟩))),.i (named s.verb))] [(32,.bool ((!(kH.valid ⟨s.c.x,s.c.y⟩))||((decide ((named s.verb)≤2))&&(!((s.c.x==0)&&(s.c.y==0))))))] ⟨fun u hC g=>ah0 (uy (s.verb) _),trivial⟩ (hk:=⟨Sx.fQ (fun _=>abG ..) (by kernel_rfl),trivial⟩) fun ac u E46 S=>ahJ (Gi _ _ ?_);refine ahN S (fun hc47=>?_) (fun hc47=>?_)
 ·refine ahK fun _ zC=>adr S 1 [] [(2,.z)] fun S=>ahJ<|zC _ _<|aii ?_;have g0:rO s.verb 0 s.a=true:=by
   have hh:=hc21;show(kH.valid ⟨s.a.x,s.a.y⟩ && !(decide (named s.verb≤0) && !((s.a.x==0)&&(s.a.y==0))))=_;revert hh;cases kH.valid ⟨s.a.x,s.a.y⟩<;>cases decide (named s.verb≤0)<;>cases ((s.a.x==0)&&(s.a.y==0))<;>simp
  have g1:rO s.verb 1 s.b=true:=by
   have hh:=hc34;show(kH.valid ⟨s.b.x,s.b.y⟩ && !(decide (named s.verb≤1) && !((s.b.x==0)&&(s.b.y==0))))=_;revert hh;cases kH.valid ⟨s.b.x,s.b.y⟩<;>cases decide (named s.verb≤1)<;>cases ((s.b.x==0)&&(s.b.y==0))<;>simp
  have g2:rO s.verb 2 s.c=false:=by
   have hh:=hc47;show(kH.valid ⟨s.c.x,s.c.y⟩ && !(decide (named s.verb≤2) && !((s.c.x==0)&&(s.c.y==0))))=_;revert hh;cases kH.valid ⟨s.c.x,s.c.y⟩<;>cases decide (named s.verb≤2)<;>cases ((s.c.x==0)&&(s.c.y==0))<;>simp
  refine ahU S results285 ?_;exact⟨by rw[show s.fits=false from by simp[eG.fits,g0,g1,g2]],S.E⟩
 refine ah4<|lq _ _<|aia<|adr S 2 [] [(13,.i 3)] fun S=>ahJ ?_;show Code.rounds _ _ _ 1 _ _;rw[aio];refine ahK fun _ Af=>adr S 1 [] [(14,.z)] fun S=>ahJ<|Af _ _<|ah2 fun _ zD=>ahX S<|ail<|dw _ _<|ahK fun _ TM=>adr S 1 [] [(2,.bool true)] fun S=>ahJ<|TM _ _<|aii ?_;have g0:rO s.verb 0 s.a=true:=by
  have hh:=hc21;show(kH.valid ⟨s.a.x,s.a.y⟩ && !(decide (named s.verb≤0) && !((s.a.x==0)&&(s.a.y==0))))=_;revert hh;cases kH.valid ⟨s.a.x,s.a.y⟩<;>cases decide (named s.verb≤0)<;>cases ((s.a.x==0)&&(s.a.y==0))<;>simp
 have g1:rO s.verb 1 s.b=true:=by
  have hh:=hc34;show(kH.valid ⟨s.b.x,s.b.y⟩ && !(decide (named s.verb≤1) && !((s.b.x==0)&&(s.b.y==0))))=_;revert hh;cases kH.valid ⟨s.b.x,s.b.y⟩<;>cases decide (named s.verb≤1)<;>cases ((s.b.x==0)&&(s.b.y==0))<;>simp
 have g2:rO s.verb 2 s.c=true:=by
  have hh:=hc47;show(kH.valid ⟨s.c.x,s.c.y⟩ && !(decide (named s.verb≤2) && !((s.c.x==0)&&(s.c.y==0))))=_;revert hh;cases kH.valid ⟨s.c.x,s.c.y⟩<;>cases decide (named s.verb≤2)<;>cases ((s.c.x==0)&&(s.c.y==0))<;>simp
 refine ahU S results285 ?_;exact⟨by rw[show s.fits=true from by simp[eG.fits,g0,g1,g2]],S.E⟩
open Go.RowKit
variable{α:Type}
theorem Vx{x:eG}{last:Int}(h:decide (named x.verb<0)=true):x.err last=2:=aib (ain h)
theorem Q5{x:eG}{last:Int}(h:decide (named x.verb<0)=false)(h1:(!x.stands last)=true):x.err last=10:=by
 unfold eG.err; rw[ah7 (aiu h),aib (by simpa using h1)]
theorem Vy{x:eG}{last:Int}(h:decide (named x.verb<0)=false)(h1:(!x.stands last)=false)(h2:(!x.fits)=true):x.err last=6:=by
 unfold eG.err; rw[ah7 (aiu h),ah7 (by simpa using h1),aib (by simpa using h2)]
theorem Vz{x:eG}{last:Int}(h:decide (named x.verb<0)=false)(h1:(!x.stands last)=false)(h2:(!x.fits)=false):x.err last=0:=by
 unfold eG.err; rw[ah7 (aiu h),ah7 (by simpa using h1),ah7 (by simpa using h2)]
theorem DL{w:World}{v:Value}{l:List eG}(h:su w v l) :
  Calls prog 243 #[v] w fun e w'=>e = .returned (.tuple #[.i (eP l).1,.i (eP l).2])∧Ext w w':=by
 obtain⟨a,cap,rfl⟩:=h.1.shape;have hmax:l.length≤9223372036854775807:=h.1.len;refine ahO func243 ntmps243 fun ac S=>ahK fun _ aY=>adr S 2 [] [(2,.i 0),(3,.i 0)] fun S=>ahJ<|aY _ _<|ah2 fun _ fA=>ahK fun _ jw=>adr S 3 [] [(10,.bool (256<(l.length:Int)))] fun S=>ahJ (jw _ _ ?_);refine ahN S (fun hc4=>?_) (fun hc4=>?_)
 ·refine ahK fun _ dw=>adr S 2 [] [(2,.i 5),(3,.i 256)] fun S=>ahJ<|dw _ _<|aii ?_;have p0:256<(l.length:Int):=ain hc4;refine Sx.xq S results243 ?_;have e:eP l=(5,256):=by unfold eP; rw[aib p0]
  exact⟨by rw[e],S.E⟩
 refine ah4<|fA _ _<|ahK fun _ iT=>adr S 1 [] [(4,.i 5)] fun S=>ahJ<|iT _ _<|ah2 fun _ iL=>ahK fun _ dR=>adr S 3 [] [(11,.slice a l.length cap),(12,.i l.length),(13,.i 0)] fun S=>ahJ<|dR _ _<|ah5 ?_;refine aiM (ι:=Nat×Int) (fun p a' w'=>p.1≤l.length∧(oP 5 0 l=oP p.2 (p.1:Int) (l.drop p.1))∧Sx.St w a' w' 52 [(0,.slice a l.length cap),(2,.i 0),(3,.i 0),(4,.i p.2),(11,.slice a l.length cap),(12,.i l.length),(13,.i p.1)] [] []) (fun p=>l.length-p.1) (0,5) ⟨aij _,rfl,S.sn⟩ ?_;rintro⟨k,last⟩ ac u hI;try dsimp only at hI
 obtain⟨hk,hR,S⟩:=hI;refine ahK fun _ iD=>adr S 1 [] [(14,.bool ((k:Int)<(l.length:Int)))] fun S=>ahJ<|iD _ _<|ah2 (fun _ gu=>?_);refine ahN S (fun jV=>?_) (fun jV=>?_)
 ·refine ah4<|gu _ _<|ah2 fun _ fD=>ah5<|ahK (fun _ iI=>?_);have kY:k<l.length:=by have:=ain jV; omega
  obtain⟨b14,Z9,rfl,x20,qH,xW,Fj⟩:=aiy h.1 (fun _=>rfl) (k) kY;have S:=S.view0 xW Fj;refine adr S 3 [.idx k l.length,.mem 0 0] [(15,.i k),(17,.agg x20.cells.toArray)] (hk:=⟨kY,trivial⟩) fun S=>ahL S 6 [.i 0,.i 0,.i 0,.i 0,.i 0,.i 0,.i 0] fun ac u b22 PK Yt S=>adr S 1 [] [(5,.i k)] fun S=>ahP S 0 (off:=0) (cs:=x20.cells) rfl fun u Uz S=>ahJ<|iI _ _<|ahK fun _ jA=>adr S 17 [.mem 0 0,.mem 0 0] [(7,.bool (((x20.verb)==1)||(((last) != 5)&&(((x20.verb) != 5)||((last) != 1)))))] fun S=>ahJ<|jA _ _<|ah2 fun _ l9=>ah5<|ahK fun _ pO=>adr S 2 [.mem 0 0] [(36,.i x20.verb)] fun S=>Sx.calls S 37 (uy (x20.verb) _) fun ac S=>adr S 2 [] [(34,.bool ((named x20.verb)<0))] fun S=>ahJ (pO _ _ ?_);refine ahN S (fun hc29=>?_) (fun hc29=>?_)
  ·refine ahK fun _ oJ=>adr S 3 [] [(2,.i 2),(3,.i k)] fun S=>ahJ<|oJ _ _<|aii ?_;have herr:x20.err last=2:=Vx hc29;have p0:¬256<(l.length:Int):=aiu hc4;refine Sx.xq S results243 ?_;have e:eP l=(2,(k:Int)):=by
    unfold eP;rw[ah7 (by omega),hR,ajg kY,qH,oP,herr];rfl
   exact⟨by rw[e],S.E⟩
  refine ahK fun _ qj=>adr S 3 [] [(40,.bool (!(((x20.verb)==1)||(((last) != 5)&&(((x20.verb) != 5)||((last) != 1))))))] fun S=>ahJ (qj _ _ ?_);refine ahN S (fun hc32=>?_) (fun hc32=>?_)
  ·refine ahK fun _ kD=>adr S 3 [] [(2,.i 10),(3,.i k)] fun S=>ahJ<|kD _ _<|aii ?_;have herr:x20.err last=10:=Q5 hc29 hc32;have p0:¬256<(l.length:Int):=aiu hc4;refine Sx.xq S results243 ?_;have e:eP l=(10,(k:Int)):=by
    unfold eP;rw[ah7 (by omega),hR,ajg kY,qH,oP,herr];rfl
   exact⟨by rw[e],S.E⟩
  refine ahK fun _ qE=>adr S 1 [.mem 0 0] [(45,.agg x20.cells.toArray)] fun S=>ahS S 46 (fits_any x20 _) fun ac u Ky S=>adr S 2 [] [(44,.bool (!x20.fits))] fun S=>ahJ (qE _ _ ?_);refine ahN S (fun qJ=>?_) (fun qJ=>?_)
  ·refine ahK fun _ mD=>adr S 3 [] [(2,.i 6),(3,.i k)] fun S=>ahJ<|mD _ _<|aii ?_;have herr:x20.err last=6:=Vy hc29 hc32 qJ;have p0:¬256<(l.length:Int):=aiu hc4;refine Sx.xq S results243 ?_;have e:eP l=(6,(k:Int)):=by
    unfold eP;rw[ah7 (by omega),hR,ajg kY,qH,oP,herr];rfl
   exact⟨by rw[e],S.E⟩
  refine ah4<|l9 _ _<|aia<|adr S 3 [.mem 0 0] [(4,.i x20.verb)] fun S=>ahJ<|fD _ _<|aia<|adr S 2 [.re 51 (.i (IntKind.i64.wrap ((k:Int)+1))) (.i (k+1:Nat))] [(13,.i (k+1:Nat))] (hk:=⟨ahY (by omega),trivial⟩) fun S=>ahJ ?_;show ∃i',_∧_;have herr:x20.err last=0:=Vz hc29 hc32 qJ;rw[ajg kY,qH,oP,aib herr]at hR;exact⟨((k+1),x20.verb),⟨by omega,hR,(S.sub [(0,.slice (some ⟨b14,Z9,none⟩) l.length cap),(2,.i 0),(3,.i 0),(4,.i x20.verb),(11,.slice (some ⟨b14,Z9,none⟩) l.length cap),(12,.i l.length),(13,.i (k+1:Nat))]).nC.jE 1⟩,by show _-_<_-_; omega⟩
 refine ail<|iL _ _<|ahK fun _ lq=>adr S 2 [] [(2,.i 0),(3,.i 0)] fun S=>ahJ<|lq _ _<|aii ?_;have p0:¬256<(l.length:Int):=aiu hc4;have p1:¬(k:Int)<(l.length:Int):=aiu jV;refine Sx.xq S results243 ?_;have e:eP l=(0,0):=by
  unfold eP;rw[ah7 (by omega),hR,ajB (by omega)];rfl
 exact⟨by rw[e],S.E⟩
theorem uT{w:World}{v:Value}{l:List eG}(h:su w v l) :
  Calls prog 189 #[v] w fun e w'=>e = .returned (.bool (iV l))∧Ext w w':=by
 skip;refine ahO func189 ntmps189 fun ac S=>ahK fun _ aY=>adr S 1 [] [(2,.z)] fun S=>ahJ<|aY _ _<|ahK fun _ fA=>adr S 1 [] [(6,v)] fun S=>ahS S 7 (DL (h.below S.E)) fun ac u E3 S=>adr S 5 [] [(3,.i ((eP l).1))] fun S=>ahJ<|fA _ _<|ahK fun _ nT=>adr S 3 [] [(2,.bool (((eP l).1)==0))] fun S=>ahJ<|nT _ _<|ahM S results189 ?_;exact⟨rfl,S.E⟩
end Go.Proofs.YtapmgonflgahbaaGreatDoor
