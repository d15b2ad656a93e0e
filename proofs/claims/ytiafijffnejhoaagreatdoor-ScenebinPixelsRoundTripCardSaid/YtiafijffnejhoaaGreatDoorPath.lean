/- Walks of packages intmath, vec and path: what the checks of a path answer. -/
import Derived.Test.YtiafijffnejhoaaGreatDoorPk14
import Derived.Test.YtiafijffnejhoaaGreatDoorSy
import Derived.LoopN
set_option linter.unusedVariables false
set_option maxHeartbeats 1600000
set_option maxRecDepth 100000
namespace Go.Proofs.YtiafijffnejhoaaGreatDoor
open Go.RowKit
variable{α:Type}
def dO(n lo hi:Int):Int:=if n<lo then lo else if hi<n then hi else n
theorem H6(x y:Int):((dO x (-1048576) 1048576==x)&&(dO y (-1048576) 1048576==y))=kJ.valid ⟨x,y⟩:=by
 have h:∀z:Int,(dO z (-1048576) 1048576==z)=cok z:=by
  intro z;rw[aif];unfold dO cok;simp only[ahu,ahD,ahK];(repeat' split)<;>omega
 rw[h,h]; rfl
theorem PE(n lo hi:Int)(w:World) :
  Calls Tryz.prog 251 #[.i n,.i lo,.i hi] w fun e w'=>e = .returned (.i (dO n lo hi))∧w=w':=by
 skip;refine agX Tryz.func251 Tryz.ntmps251 fun ac S=>agS fun _ aX=>adr S 1 [] [(6,.i 0)] fun S=>agR<|aX _ _<|ag9 fun _ fH=>ahc<|agS fun _ jK=>adr S 4 [] [(7,.bool (n<lo))] fun S=>agR (jK _ _ ?_);refine agU S (fun hc4=>?_) (fun hc4=>?_)
 ·refine agS fun _ dM=>adr S 2 [] [(6,.i lo)] fun S=>agR<|dM _ _<|ahj ?_;have p0:=hc4;try simp only[ahK]at p0
  refine ag3 S Tryz.results251 ?_;exact⟨fU (by unfold dO; (repeat' split)<;>omega),rfl⟩
 refine agS fun _ iI=>adr S 4 [] [(12,.bool (hi<n))] fun S=>agR (iI _ _ ?_);refine agU S (fun zX=>?_) (fun zX=>?_)
 ·refine agS fun _ dU=>adr S 2 [] [(6,.i hi)] fun S=>agR<|dU _ _<|ahj ?_;have p0:=hc4;try simp only[aiu]at p0
  have p1:=zX;try simp only[ahK]at p1
  refine ag3 S Tryz.results251 ?_;exact⟨fU (by unfold dO; (repeat' split)<;>omega),rfl⟩
 refine aha<|fH _ _<|agS fun _ iP=>adr S 2 [] [(6,.i n)] fun S=>agR<|iP _ _<|ahj ?_;have p0:=hc4;try simp only[aiu]at p0
 have p1:=zX;try simp only[aiu]at p1
 refine ag3 S Tryz.results251 ?_;exact⟨fU (by unfold dO; (repeat' split)<;>omega),rfl⟩
theorem H7(n:Int)(w:World) :
  Calls Tryz.prog 246 #[.i n] w fun e w'=>e = .returned (.i (dO n (-1048576) 1048576))∧w=w':=by
 skip;refine agX Tryz.func246 Tryz.ntmps246 fun ac S=>agS fun _ aX=>adr S 1 [] [(2,.i 0)] fun S=>agR<|aX _ _<|agS fun _ fH=>adr S 1 [] [(3,.i n)] fun S=>aiL S 4 (PE (n) (-1048576) (1048576) _) fun ac S=>adr S 1 [] [(2,.i (dO n (-1048576) (1048576)))] fun S=>agR<|fH _ _<|agV S Tryz.results246 ?_;exact⟨rfl,rfl⟩
theorem TA(x y:Int)(w:World) :
  Calls Tryz.prog 237 #[.agg #[.i x,.i y]] w fun e w'=>e = .returned (.agg #[.i (dO x (-1048576) 1048576),.i (dO y (-1048576) 1048576)])∧Ext w w':=by
 skip;refine agX Tryz.func237 Tryz.ntmps237 fun ac S=>agS fun _ aX=>agT S 1 [.i x,.i y] fun ac u b2 E3 hb4 S=>agT S 2 [.i 0,.i 0] fun ac u b5 E6 hb7 S=>agR<|aX _ _<|agS fun _ dU=>adr S 1 [] [(3,.func (.func 246) #[] #[])] fun S=>agR<|dU _ _<|ag9 fun _ iP=>ag2 S 9 [.mem 1 0,.mem 1 1] [(_,_,true,.i (dO x (-1048576) 1048576)),(_,_,true,.i (dO y (-1048576) 1048576))] [(12,.agg #[.i (dO x (-1048576) 1048576),.i (dO y (-1048576) 1048576)])] ⟨fun u hC g=>ag6 (H7 x _),fun u hC g=>ag6 (H7 y _),trivial⟩ fun ac u Vz S=>agW S 0 (off:=0) (cs:=[.i (dO x (-1048576) 1048576),.i (dO y (-1048576) 1048576)]) rfl fun u C11 S=>agR<|iP _ _<|Sx.Cc S 0 Tryz.results237 rfl (v := .agg #[.i (dO x (-1048576) 1048576),.i (dO y (-1048576) 1048576)]) ?_;exact⟨rfl,S.E⟩
theorem jB(x y:Int)(w:World) :
  Calls Tryz.prog 213 #[.agg #[.i x,.i y]] w fun e w'=>e = .returned (.bool (kJ.valid ⟨x,y⟩))∧Ext w w':=by
 skip;refine agX Tryz.func213 Tryz.ntmps213 fun ac S=>agS fun _ aX=>agT S 1 [.i x,.i y] fun ac u b2 E3 hb4 S=>adr S 1 [] [(2,.bool false)] fun S=>agR<|aX _ _<|ag9 fun _ dM=>ag2 S 4 [.mem 0 0,.mem 0 0,.cmp .eql 127 (.tmp 4) (.tmp 5) (.agg #[.i (dO x (-1048576) 1048576),.i (dO y (-1048576) 1048576)]) (.agg #[.i x,.i y]) (.bool (((dO x (-1048576) 1048576)==x)&&((dO y (-1048576) 1048576)==y)))] [(_,_,true,.agg #[.i (dO x (-1048576) 1048576),.i (dO y (-1048576) 1048576)])] [(6,.bool (((dO x (-1048576) 1048576)==x)&&((dO y (-1048576) 1048576)==y)))] ⟨fun u hC g=>TA x y _,trivial⟩ (hk:=⟨Sx.dX (fun _=>eqPt ..) (by kernel_rfl),trivial⟩) fun ac u E6 S=>adr S 1 [] [(2,.bool (((dO x (-1048576) 1048576)==x)&&((dO y (-1048576) 1048576)==y)))] fun S=>agR<|dM _ _<|agV S Tryz.results213 ?_;exact⟨by rw[←H6],S.E⟩
theorem tH(v:Int)(w:World) :
  Calls Tryz.prog 186 #[.i v] w fun e w'=>e = .returned (.i (named v))∧w=w':=by
 skip;refine agX Tryz.func186 Tryz.ntmps186 fun ac S=>agS fun _ aX=>adr S 1 [] [(2,.i 0)] fun S=>agR<|aX _ _<|agS fun _ fH=>adr S 1 [] [(3,.i 0)] fun S=>agR<|fH _ _<|ag9 fun _ jK=>agS fun _ uQ=>adr S 1 [] [(4,.i v)] fun S=>agR<|uQ _ _<|ahc<|ag9 fun _ dM=>ahc<|ag9 fun _ iI=>ahc<|ag9 fun _ jf=>ahc<|ag9 fun _ dU=>ahc<|ag9 fun _ iP=>ahc<|ag9 fun _ gI=>ag9 fun _ dB=>agS fun _ dP=>adr S 2 [] [(5,.bool ((v)==4))] fun S=>agR (dP _ _ ?_);refine agU S (fun hc13=>?_) (fun hc13=>?_)
 ·refine ahn<|iP _ _<|ahi<|adr S 3 [] [(3,.i 1)] fun S=>agR<|dU _ _<|ahi<|adr S 3 [] [(3,.i 2)] fun S=>agR<|jf _ _<|agS fun _ fP=>adr S 3 [] [(3,.i 3)] fun S=>agR<|fP _ _<|ahn<|jK _ _<|agS fun _ jk=>adr S 2 [] [(2,.i 3)] fun S=>agR<|jk _ _<|ahj ?_;have p0:=hc13;try simp only[ahu]at p0
  refine ag3 S Tryz.results186 ?_;exact⟨fU (by unfold named; (repeat' split)<;>omega),rfl⟩
 refine aha<|dB _ _<|ag9 fun _ kG=>agS fun _ iC=>adr S 2 [] [(7,.bool ((v)==3))] fun S=>agR (iC _ _ ?_);refine agU S (fun hc18=>?_) (fun hc18=>?_)
 ·refine ahn<|dU _ _<|ahi<|adr S 3 [] [(3,.i 1)] fun S=>agR<|jf _ _<|agS fun _ kX=>adr S 3 [] [(3,.i 2)] fun S=>agR<|kX _ _<|ahn<|jK _ _<|agS fun _ kH=>adr S 2 [] [(2,.i 2)] fun S=>agR<|kH _ _<|ahj ?_;have p0:=hc13;try simp only[ahq,ne_eq]at p0
  have p1:=hc18;try simp only[ahu]at p1
  refine ag3 S Tryz.results186 ?_;exact⟨fU (by unfold named; (repeat' split)<;>omega),rfl⟩
 refine aha<|kG _ _<|ag9 fun _ nV=>ag9 fun _ nX=>agS fun _ uN=>adr S 2 [] [(9,.bool ((v)==1))] fun S=>agR (uN _ _ ?_);refine agU S (fun hc24=>?_) (fun hc24=>?_)
 ·refine aha<|nX _ _ ?_;refine agU S (fun hc25=>?_) (fun hc25=>?_)
  ·refine ahn<|jf _ _<|agS fun _ oN=>adr S 3 [] [(3,.i 1)] fun S=>agR<|oN _ _<|ahn<|jK _ _<|agS fun _ qg=>adr S 2 [] [(2,.i 1)] fun S=>agR<|qg _ _<|ahj ?_;have p0:=hc13;try simp only[ahq,ne_eq]at p0
   have p1:=hc18;try simp only[ahq,ne_eq]at p1
   have p2:=hc24;try simp only[ahu]at p2
   have p3:=hc25;try simp only[ahu]at p3
   refine ag3 S Tryz.results186 ?_;exact⟨fU (by unfold named; (repeat' split)<;>omega),rfl⟩
  refine aha<|nV _ _<|agS fun _ rC=>adr S 2 [] [(12,.bool ((v)==5))] fun S=>agR (rC _ _ ?_);refine agU S (fun hc29=>?_) (fun hc29=>?_)
  ·refine ahn<|iI _ _<|ahn<|jK _ _<|agS fun _ qX=>adr S 2 [] [(2,.i 0)] fun S=>agR<|qX _ _<|ahj ?_;have p0:=hc13;try simp only[ahq,ne_eq]at p0
   have p1:=hc18;try simp only[ahq,ne_eq]at p1
   have p2:=hc24;try simp only[ahu]at p2
   have p3:=hc25;try simp only[ahq,ne_eq]at p3
   have p4:=hc29;try simp only[ahu]at p4
   refine ag3 S Tryz.results186 ?_;exact⟨fU (by unfold named; (repeat' split)<;>omega),rfl⟩
  refine aha<|gI _ _<|ahn<|dM _ _<|ag9 fun _ wz=>agS fun _ lG=>adr S 1 [] [(2,.i (-1))] fun S=>agR<|lG _ _<|ahj ?_;have p0:=hc13;try simp only[ahq,ne_eq]at p0
  have p1:=hc18;try simp only[ahq,ne_eq]at p1
  have p2:=hc24;try simp only[ahu]at p2
  have p3:=hc25;try simp only[ahq,ne_eq]at p3
  have p4:=hc29;try simp only[ahq,ne_eq]at p4
  refine ag3 S Tryz.results186 ?_;exact⟨fU (by unfold named; (repeat' split)<;>omega),rfl⟩
 refine ahi<|adr S 2 [] [(9,.bool ((v)==2))] fun S=>agR (nX _ _ ?_);refine agU S (fun Xd=>?_) (fun Xd=>?_)
 ·refine ahn<|jf _ _<|agS fun _ vY=>adr S 3 [] [(3,.i 1)] fun S=>agR<|vY _ _<|ahn<|jK _ _<|agS fun _ uO=>adr S 2 [] [(2,.i 1)] fun S=>agR<|uO _ _<|ahj ?_;have p0:=hc13;try simp only[ahq,ne_eq]at p0
  have p1:=hc18;try simp only[ahq,ne_eq]at p1
  have p2:=hc24;try simp only[ahq,ne_eq]at p2
  have p3:=Xd;try simp only[ahu]at p3
  refine ag3 S Tryz.results186 ?_;exact⟨fU (by unfold named; (repeat' split)<;>omega),rfl⟩
 refine aha<|nV _ _<|agS fun _ mV=>adr S 2 [] [(12,.bool ((v)==5))] fun S=>agR (mV _ _ ?_);refine agU S (fun Hz=>?_) (fun Hz=>?_)
 ·refine ahn<|iI _ _<|ahn<|jK _ _<|agS fun _ mX=>adr S 2 [] [(2,.i 0)] fun S=>agR<|mX _ _<|ahj ?_;have p0:=hc13;try simp only[ahq,ne_eq]at p0
  have p1:=hc18;try simp only[ahq,ne_eq]at p1
  have p2:=hc24;try simp only[ahq,ne_eq]at p2
  have p3:=Xd;try simp only[ahq,ne_eq]at p3
  have p4:=Hz;try simp only[ahu]at p4
  refine ag3 S Tryz.results186 ?_;exact⟨fU (by unfold named; (repeat' split)<;>omega),rfl⟩
 refine aha<|gI _ _<|ahn<|dM _ _<|ag9 fun _ vX=>agS fun _ uM=>adr S 1 [] [(2,.i (-1))] fun S=>agR<|uM _ _<|ahj ?_;have p0:=hc13;try simp only[ahq,ne_eq]at p0
 have p1:=hc18;try simp only[ahq,ne_eq]at p1
 have p2:=hc24;try simp only[ahq,ne_eq]at p2
 have p3:=Xd;try simp only[ahq,ne_eq]at p3
 have p4:=Hz;try simp only[ahq,ne_eq]at p4
 refine ag3 S Tryz.results186 ?_;exact⟨fU (by unfold named; (repeat' split)<;>omega),rfl⟩
theorem fits_any(s:gQ)(w:World) :
  Calls Tryz.prog 187 #[.agg #[.i s.verb,.i s.a.x,.i s.a.y,.i s.b.x,.i s.b.y,.i s.c.x,.i s.c.y]] w fun e w'=>e = .returned (.bool s.fits)∧Ext w w':=by
 skip;refine agX Tryz.func187 Tryz.ntmps187 fun ac S=>agS fun _ aX=>agT S 1 s.cells fun ac u b2 E3 hb4 S=>adr S 1 [] [(2,.bool false)] fun S=>agR<|aX _ _<|ag9 fun _ dM=>agS fun _ iI=>adr S 6 [.mem 0 1,.mem 0 3,.mem 0 5] [(6,.agg #[.i s.a.x,.i s.a.y]),(8,.agg #[.i s.b.x,.i s.b.y]),(10,.agg #[.i s.c.x,.i s.c.y])] fun S=>Sx.news S 11 3 [.i s.a.x,.i s.a.y,.i s.b.x,.i s.b.y,.i s.c.x,.i s.c.y] fun ac u b7 E8 hb9 S=>adr S 2 [] [(12,.i 3),(13,.i 0)] fun S=>agR<|iI _ _<|ahc<|aiq 4 ?_;rw[ahr];refine agS fun _ gI=>adr S 1 [] [(14,.bool true)] fun S=>agR<|gI _ _<|ag9 fun _ dB=>ag4 S<|aha<|dB _ _<|ag9 fun _ dP=>ahc<|agS fun _ gX=>adr S 3 [.mem 0 0] [(15,.i 0),(17,.agg #[.i s.a.x,.i s.a.y])] fun S=>agT S 4 [.i 0,.i 0] fun ac u b14 CO hb16 S=>adr S 1 [] [(3,.i 0)] fun S=>agW S 0 (off:=0) (cs:=[.i s.a.x,.i s.a.y]) rfl fun u C17 S=>agR<|gX _ _<|agS fun _ jE=>adr S 1 [.mem 0 0] [(18,.agg #[.i s.a.x,.i s.a.y])] fun S=>ag0 S 19 (jB (s.a.x) (s.a.y) _) fun ac u Qr S=>Sx.oQ S 13 [.mem 2 0,.mem 0 0,.cmp .neq 127 (.tmp 28) (.tmp 29) (.agg #[.i s.a.x,.i s.a.y]) (.agg #[.i 0,.i 0]) (.bool (!((s.a.x==0)&&(s.a.y==0))))] [(_,_,(!(!(kJ.valid ⟨s.a.x,s.a.y⟩))),.i (named s.verb))] [(32,.bool ((!(kJ.valid ⟨s.a.x,s.a.y⟩))||((decide ((named s.verb)≤0))&&(!((s.a.x==0)&&(s.a.y==0))))))] ⟨fun u hC g=>ag6 (tH (s.verb) _),trivial⟩ (hk:=⟨Sx.dX (fun _=>aas ..) (by kernel_rfl),trivial⟩) fun ac u D6 S=>agR (jE _ _ ?_);refine agU S (fun hc21=>?_) (fun hc21=>?_)
 ·refine agS fun _ nX=>adr S 1 [] [(2,.bool false)] fun S=>agR<|nX _ _<|ahj ?_;have g0:qO s.verb 0 s.a=false:=by
   have hh:=hc21;show(kJ.valid ⟨s.a.x,s.a.y⟩ && !(decide (named s.verb≤0) && !((s.a.x==0)&&(s.a.y==0))))=_;revert hh;cases kJ.valid ⟨s.a.x,s.a.y⟩<;>cases decide (named s.verb≤0)<;>cases ((s.a.x==0)&&(s.a.y==0))<;>simp
  refine ag3 S Tryz.results187 ?_;exact⟨by rw[show s.fits=false from by simp[gQ.fits,g0]],S.E⟩
 refine aha<|dP _ _<|ahi<|adr S 2 [] [(13,.i 1)] fun S=>agR ?_;show Code.rounds _ _ _ 3 _ _;rw[ahr];refine agS fun _ uN=>adr S 1 [] [(14,.bool true)] fun S=>agR<|uN _ _<|ag9 fun _ xP=>ag4 S<|aha<|xP _ _<|ag9 fun _ zF=>ahc<|agS fun _ oN=>adr S 3 [.mem 1 2] [(15,.i 1),(17,.agg #[.i s.b.x,.i s.b.y])] fun S=>agT S 4 [.i 0,.i 0] fun ac u b27 Wn yZ S=>adr S 1 [] [(3,.i 1)] fun S=>agW S 0 (off:=0) (cs:=[.i s.b.x,.i s.b.y]) rfl fun u C30 S=>agR<|oN _ _<|agS fun _ wz=>adr S 1 [.mem 0 0] [(18,.agg #[.i s.b.x,.i s.b.y])] fun S=>ag0 S 19 (jB (s.b.x) (s.b.y) _) fun ac u E32 S=>Sx.oQ S 13 [.mem 3 0,.mem 0 0,.cmp .neq 127 (.tmp 28) (.tmp 29) (.agg #[.i s.b.x,.i s.b.y]) (.agg #[.i 0,.i 0]) (.bool (!((s.b.x==0)&&(s.b.y==0))))] [(_,_,(!(!(kJ.valid ⟨s.b.x,s.b.y⟩))),.i (named s.verb))] [(32,.bool ((!(kJ.valid ⟨s.b.x,s.b.y⟩))||((decide ((named s.verb)≤1))&&(!((s.b.x==0)&&(s.b.y==0))))))] ⟨fun u hC g=>ag6 (tH (s.verb) _),trivial⟩ (hk:=⟨Sx.dX (fun _=>aas ..) (by kernel_rfl),trivial⟩) fun ac u E33 S=>agR (wz _ _ ?_);refine agU S (fun hc34=>?_) (fun hc34=>?_)
 ·refine agS fun _ uO=>adr S 1 [] [(2,.bool false)] fun S=>agR<|uO _ _<|ahj ?_;have g0:qO s.verb 0 s.a=true:=by
   have hh:=hc21;show(kJ.valid ⟨s.a.x,s.a.y⟩ && !(decide (named s.verb≤0) && !((s.a.x==0)&&(s.a.y==0))))=_;revert hh;cases kJ.valid ⟨s.a.x,s.a.y⟩<;>cases decide (named s.verb≤0)<;>cases ((s.a.x==0)&&(s.a.y==0))<;>simp
  have g1:qO s.verb 1 s.b=false:=by
   have hh:=hc34;show(kJ.valid ⟨s.b.x,s.b.y⟩ && !(decide (named s.verb≤1) && !((s.b.x==0)&&(s.b.y==0))))=_;revert hh;cases kJ.valid ⟨s.b.x,s.b.y⟩<;>cases decide (named s.verb≤1)<;>cases ((s.b.x==0)&&(s.b.y==0))<;>simp
  refine ag3 S Tryz.results187 ?_;exact⟨by rw[show s.fits=false from by simp[gQ.fits,g0,g1]],S.E⟩
 refine aha<|zF _ _<|ahi<|adr S 2 [] [(13,.i 2)] fun S=>agR ?_;show Code.rounds _ _ _ 2 _ _;rw[ahr];refine agS fun _ mV=>adr S 1 [] [(14,.bool true)] fun S=>agR<|mV _ _<|ag9 fun _ oO=>ag4 S<|aha<|oO _ _<|ag9 fun _ mX=>ahc<|agS fun _ vX=>adr S 3 [.mem 2 4] [(15,.i 2),(17,.agg #[.i s.c.x,.i s.c.y])] fun S=>agT S 4 [.i 0,.i 0] fun ac u b40 E41 aat S=>adr S 1 [] [(3,.i 2)] fun S=>agW S 0 (off:=0) (cs:=[.i s.c.x,.i s.c.y]) rfl fun u Xe S=>agR<|vX _ _<|agS fun _ EW=>adr S 1 [.mem 0 0] [(18,.agg #[.i s.c.x,.i s.c.y])] fun S=>ag0 S 19 (jB (s.c.x) (s.c.y) _) fun ac u Yt S=>Sx.oQ S 13 [.mem 4 0,.mem 0 0,.cmp .neq 127 (.tmp 28) (.tmp 29) (.agg #[.i s.c.x,.i s.c.y]) (.agg #[.i 0,.i 0]) (.bool (!((s.c.x==0)&&(s.c.y==0))))] [(_,_,(!(!(kJ.valid ⟨s.c.x,s.c.y⟩))),.i (named s.verb))] [(32,.bool ((!(kJ.valid ⟨s.c.x,s.c.y⟩))||((decide ((named s.verb)≤2))&&(!((s.c.x==0)&&(s.c.y==0))))))] ⟨fun u hC g=>ag6 (tH (s.verb) _),trivial⟩ (hk:=⟨Sx.dX (fun _=>aas ..) (by kernel_rfl),trivial⟩) fun ac u E46 S=>agR (EW _ _ ?_);refine agU S (fun hc47=>?_) (fun hc47=>?_)
 ·refine agS fun _ Gl=>adr S 1 [] [(2,.bool false)] fun S=>agR<|Gl _ _<|ahj ?_;have g0:qO s.verb 0 s.a=true:=by
   have hh:=hc21;show(kJ.valid ⟨s.a.x,s.a.y⟩ && !(decide (named s.verb≤0) && !((s.a.x==0)&&(s.a.y==0))))=_;revert hh;cases kJ.valid ⟨s.a.x,s.a.y⟩<;>cases decide (named s.verb≤0)<;>cases ((s.a.x==0)&&(s.a.y==0))<;>simp
  have g1:qO s.verb 1 s.b=true:=by
   have hh:=hc34;show(kJ.valid ⟨s.b.x,s.b.y⟩ && !(decide (named s.verb≤1) && !((s.b.x==0)&&(s.b.y==0))))=_;revert hh;cases kJ.valid ⟨s.b.x,s.b.y⟩<;>cases decide (named s.verb≤1)<;>cases ((s.b.x==0)&&(s.b.y==0))<;>simp
  have g2:qO s.verb 2 s.c=false:=by
   have hh:=hc47;show(kJ.valid ⟨s.c.x,s.c.y⟩ && !(decide (named s.verb≤2) && !((s.c.x==0)&&(s.c.y==0))))=_;revert hh;cases kJ.valid ⟨s.c.x,s.c.y⟩<;>cases decide (named s.verb≤2)<;>cases ((s.c.x==0)&&(s.c.y==0))<;>simp
  refine ag3 S Tryz.results187 ?_;exact⟨by rw[show s.fits=false from by simp[gQ.fits,g0,g1,g2]],S.E⟩
 refine aha<|mX _ _<|ahi<|adr S 2 [] [(13,.i 3)] fun S=>agR ?_;show Code.rounds _ _ _ 1 _ _;rw[ahr];refine agS fun _ Ed=>adr S 1 [] [(14,.bool false)] fun S=>agR<|Ed _ _<|ag9 fun _ Ce=>ag5 S<|ahn<|dM _ _<|agS fun _ QW=>adr S 1 [] [(2,.bool true)] fun S=>agR<|QW _ _<|ahj ?_;have g0:qO s.verb 0 s.a=true:=by
  have hh:=hc21;show(kJ.valid ⟨s.a.x,s.a.y⟩ && !(decide (named s.verb≤0) && !((s.a.x==0)&&(s.a.y==0))))=_;revert hh;cases kJ.valid ⟨s.a.x,s.a.y⟩<;>cases decide (named s.verb≤0)<;>cases ((s.a.x==0)&&(s.a.y==0))<;>simp
 have g1:qO s.verb 1 s.b=true:=by
  have hh:=hc34;show(kJ.valid ⟨s.b.x,s.b.y⟩ && !(decide (named s.verb≤1) && !((s.b.x==0)&&(s.b.y==0))))=_;revert hh;cases kJ.valid ⟨s.b.x,s.b.y⟩<;>cases decide (named s.verb≤1)<;>cases ((s.b.x==0)&&(s.b.y==0))<;>simp
 have g2:qO s.verb 2 s.c=true:=by
  have hh:=hc47;show(kJ.valid ⟨s.c.x,s.c.y⟩ && !(decide (named s.verb≤2) && !((s.c.x==0)&&(s.c.y==0))))=_;revert hh;cases kJ.valid ⟨s.c.x,s.c.y⟩<;>cases decide (named s.verb≤2)<;>cases ((s.c.x==0)&&(s.c.y==0))<;>simp
 refine ag3 S Tryz.results187 ?_;exact⟨by rw[show s.fits=true from by simp[gQ.fits,g0,g1,g2]],S.E⟩
open Go.RowKit
variable{α:Type}
theorem TB{x:gQ}{last:Int}(h:decide (named x.verb<0)=true):x.err last=2:=ahf (aho h)
theorem PG{x:gQ}{last:Int}(h:decide (named x.verb<0)=false)(h1:(!x.stands last)=true):x.err last=10:=by
 unfold gQ.err; rw[ahe (aht h),ahf (by simpa using h1)]
theorem TD{x:gQ}{last:Int}(h:decide (named x.verb<0)=false)(h1:(!x.stands last)=false)(h2:(!x.fits)=true):x.err last=6:=by
 unfold gQ.err; rw[ahe (aht h),ahe (by simpa using h1),ahf (by simpa using h2)]
theorem TF{x:gQ}{last:Int}(h:decide (named x.verb<0)=false)(h1:(!x.stands last)=false)(h2:(!x.fits)=false):x.err last=0:=by
 unfold gQ.err; rw[ahe (aht h),ahe (by simpa using h1),ahe (by simpa using h2)]
theorem CU{w:World}{v:Value}{l:List gQ}(h:rH w v l) :
  Calls Tryz.prog 158 #[v] w fun e w'=>e = .returned (.tuple #[.i (eu l).1,.i (eu l).2])∧Ext w w':=by
 obtain⟨a,cap,rfl⟩:=h.1.shape;have hmax:l.length≤9223372036854775807:=h.1.len;refine agX Tryz.func158 Tryz.ntmps158 fun ac S=>agS fun _ aX=>adr S 2 [] [(2,.i 0),(3,.i 0)] fun S=>agR<|aX _ _<|ag9 fun _ fH=>agS fun _ jK=>adr S 3 [] [(10,.bool (256<(l.length:Int)))] fun S=>agR (jK _ _ ?_);refine agU S (fun hc4=>?_) (fun hc4=>?_)
 ·refine agS fun _ dM=>adr S 2 [] [(2,.i 5),(3,.i 256)] fun S=>agR<|dM _ _<|ahj ?_;have p0:256<(l.length:Int):=aho hc4;refine Sx.um S Tryz.results158 ?_;have e:eu l=(5,256):=by unfold eu; rw[ahf p0]
  exact⟨by rw[e],S.E⟩
 refine aha<|fH _ _<|agS fun _ iI=>adr S 1 [] [(4,.i 5)] fun S=>agR<|iI _ _<|ag9 fun _ jf=>agS fun _ dU=>adr S 3 [] [(11,.slice a l.length cap),(12,.i l.length),(13,.i 0)] fun S=>agR<|dU _ _<|ahc ?_;refine ahJ (ι:=Nat×Int) (fun p a' w'=>p.1≤l.length∧(oz 5 0 l=oz p.2 (p.1:Int) (l.drop p.1))∧Sx.St w a' w' 52 [(0,.slice a l.length cap),(2,.i 0),(3,.i 0),(4,.i p.2),(11,.slice a l.length cap),(12,.i l.length),(13,.i p.1)] [] []) (fun p=>l.length-p.1) (0,5) ⟨ahk _,rfl,S.sn⟩ ?_;rintro⟨k,last⟩ ac u hI;try dsimp only at hI
 obtain⟨hk,hR,S⟩:=hI;refine agS fun _ iP=>adr S 1 [] [(14,.bool ((k:Int)<(l.length:Int)))] fun S=>agR<|iP _ _<|ag9 (fun _ gI=>?_);refine agU S (fun jc=>?_) (fun jc=>?_)
 ·refine aha<|gI _ _<|ag9 fun _ dP=>ahc<|agS (fun _ gX=>?_);have jJ:k<l.length:=by have:=aho jc; omega
  obtain⟨b14,Wu,rfl,x20,nZ,xO,zN⟩:=ahx h.1 (fun _=>rfl) (k) jJ;have S:=S.view0 xO zN;refine adr S 3 [.idx k l.length,.mem 0 0] [(15,.i k),(17,.agg x20.cells.toArray)] (hk:=⟨jJ,trivial⟩) fun S=>agT S 6 [.i 0,.i 0,.i 0,.i 0,.i 0,.i 0,.i 0] fun ac u b22 LK OO S=>adr S 1 [] [(5,.i k)] fun S=>agW S 0 (off:=0) (cs:=x20.cells) rfl fun u OQ S=>agR<|gX _ _<|agS fun _ oN=>adr S 17 [.mem 0 0,.mem 0 0] [(7,.bool (((x20.verb)==1)||(((last) != 5)&&(((x20.verb) != 5)||((last) != 1)))))] fun S=>agR<|oN _ _<|ag9 fun _ qg=>ahc<|agS fun _ rC=>adr S 2 [.mem 0 0] [(36,.i x20.verb)] fun S=>aiL S 37 (tH (x20.verb) _) fun ac S=>adr S 2 [] [(34,.bool ((named x20.verb)<0))] fun S=>agR (rC _ _ ?_);refine agU S (fun hc29=>?_) (fun hc29=>?_)
  ·refine agS fun _ qX=>adr S 3 [] [(2,.i 2),(3,.i k)] fun S=>agR<|qX _ _<|ahj ?_;have herr:x20.err last=2:=TB hc29;have p0:¬256<(l.length:Int):=aht hc4;refine Sx.um S Tryz.results158 ?_;have e:eu l=(2,(k:Int)):=by
    unfold eu;rw[ahe (by omega),hR,ahU jJ,nZ,oz,herr];rfl
   exact⟨by rw[e],S.E⟩
  refine agS fun _ wz=>adr S 3 [] [(40,.bool (!(((x20.verb)==1)||(((last) != 5)&&(((x20.verb) != 5)||((last) != 1))))))] fun S=>agR (wz _ _ ?_);refine agU S (fun hc32=>?_) (fun hc32=>?_)
  ·refine agS fun _ kW=>adr S 3 [] [(2,.i 10),(3,.i k)] fun S=>agR<|kW _ _<|ahj ?_;have herr:x20.err last=10:=PG hc29 hc32;have p0:¬256<(l.length:Int):=aht hc4;refine Sx.um S Tryz.results158 ?_;have e:eu l=(10,(k:Int)):=by
    unfold eu;rw[ahe (by omega),hR,ahU jJ,nZ,oz,herr];rfl
   exact⟨by rw[e],S.E⟩
  refine agS fun _ vY=>adr S 1 [.mem 0 0] [(45,.agg x20.cells.toArray)] fun S=>ag0 S 46 (fits_any x20 _) fun ac u LP S=>adr S 2 [] [(44,.bool (!x20.fits))] fun S=>agR (vY _ _ ?_);refine agU S (fun uX=>?_) (fun uX=>?_)
  ·refine agS fun _ oO=>adr S 3 [] [(2,.i 6),(3,.i k)] fun S=>agR<|oO _ _<|ahj ?_;have herr:x20.err last=6:=TD hc29 hc32 uX;have p0:¬256<(l.length:Int):=aht hc4;refine Sx.um S Tryz.results158 ?_;have e:eu l=(6,(k:Int)):=by
    unfold eu;rw[ahe (by omega),hR,ahU jJ,nZ,oz,herr];rfl
   exact⟨by rw[e],S.E⟩
  refine aha<|qg _ _<|ahi<|adr S 3 [.mem 0 0] [(4,.i x20.verb)] fun S=>agR<|dP _ _<|ahi<|adr S 2 [.re 51 (.i (IntKind.i64.wrap ((k:Int)+1))) (.i (k+1:Nat))] [(13,.i (k+1:Nat))] (hk:=⟨ag7 (by omega),trivial⟩) fun S=>agR ?_;show ∃i',_∧_;have herr:x20.err last=0:=TF hc29 hc32 uX;rw[ahU jJ,nZ,oz,ahf herr]at hR;exact⟨((k+1),x20.verb),⟨by omega,hR,(S.sub [(0,.slice (some ⟨b14,Wu,none⟩) l.length cap),(2,.i 0),(3,.i 0),(4,.i x20.verb),(11,.slice (some ⟨b14,Wu,none⟩) l.length cap),(12,.i l.length),(13,.i (k+1:Nat))]).tu.nD 1⟩,by show _-_<_-_; omega⟩
 refine ahn<|jf _ _<|agS fun _ mX=>adr S 2 [] [(2,.i 0),(3,.i 0)] fun S=>agR<|mX _ _<|ahj ?_;have p0:¬256<(l.length:Int):=aht hc4;have p1:¬(k:Int)<(l.length:Int):=aht jc;refine Sx.um S Tryz.results158 ?_;have e:eu l=(0,0):=by
  unfold eu;rw[ahe (by omega),hR,aic (by omega)];rfl
 exact⟨by rw[e],S.E⟩
theorem uD{w:World}{v:Value}{l:List gQ}(h:rH w v l) :
  Calls Tryz.prog 134 #[v] w fun e w'=>e = .returned (.bool (jq l))∧Ext w w':=by
 skip;refine agX Tryz.func134 Tryz.ntmps134 fun ac S=>agS fun _ aX=>adr S 1 [] [(2,.bool false)] fun S=>agR<|aX _ _<|agS fun _ fH=>adr S 1 [] [(6,v)] fun S=>ag0 S 7 (CU (h.below S.E)) fun ac u E3 S=>adr S 5 [] [(3,.i ((eu l).1))] fun S=>agR<|fH _ _<|agS fun _ uQ=>adr S 3 [] [(2,.bool (((eu l).1)==0))] fun S=>agR<|uQ _ _<|agV S Tryz.results134 ?_;exact⟨rfl,S.E⟩
end Go.Proofs.YtiafijffnejhoaaGreatDoor
