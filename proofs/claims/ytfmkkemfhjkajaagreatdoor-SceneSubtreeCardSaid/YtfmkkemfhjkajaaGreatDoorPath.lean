/- Walks of packages intmath, vec and path: what the checks of a path answer. -/
import Derived.Test.YtfmkkemfhjkajaaGreatDoorPk13
import Derived.LoopN
set_option linter.unusedVariables false
set_option maxHeartbeats 1600000
set_option maxRecDepth 100000
namespace Go.Proofs.YtfmkkemfhjkajaaGreatDoor
open _root_.Go.Proofs.Tryz
open Go.RowKit
variable{α:Type}
def gq(n lo hi:Int):Int:=if n<lo then lo else if hi<n then hi else n
theorem OI(x y:Int):((gq x (-1048576) 1048576==x)&&(gq y (-1048576) 1048576==y))=kK.valid ⟨x,y⟩:=by
 have h:∀z:Int,(gq z (-1048576) 1048576==z)=cok z:=by
  intro z;rw[al4];unfold gq cok;simp only[alu,alr,alz];(repeat' split)<;>omega
 rw[h,h]; rfl
theorem XF(n lo hi:Int)(w:World) :
  Calls prog 275 #[.i n,.i lo,.i hi] w fun e w'=>e = .returned (.i (gq n lo hi))∧w=w':=by
 skip;refine akN func275 ntmps275 fun ac S=>akJ fun _ aS=>adr S 1 [] [(6,.i 0)] fun S=>akI<|aS _ _<|ak6 fun _ fD=>ak8<|akJ fun _ iD=>adr S 4 [] [(7,.bool (n<lo))] fun S=>akI (iD _ _ ?_);refine akL S (fun hc4=>?_) (fun hc4=>?_)
 ·refine akJ fun _ dB=>adr S 2 [] [(6,.i lo)] fun S=>akI<|dB _ _<|ala ?_;have p0:=hc4;try simp only[alz]at p0
  refine akP S results275 ?_;exact⟨dS (by unfold gq; (repeat' split)<;>omega),rfl⟩
 refine akJ fun _ je=>adr S 4 [] [(12,.bool (hi<n))] fun S=>akI (je _ _ ?_);refine akL S (fun kW=>?_) (fun kW=>?_)
 ·refine akJ fun _ dP=>adr S 2 [] [(6,.i hi)] fun S=>akI<|dP _ _<|ala ?_;have p0:=hc4;try simp only[amc]at p0
  have p1:=kW;try simp only[alz]at p1
  refine akP S results275 ?_;exact⟨dS (by unfold gq; (repeat' split)<;>omega),rfl⟩
 refine ak7<|fD _ _<|akJ fun _ iq=>adr S 2 [] [(6,.i n)] fun S=>akI<|iq _ _<|ala ?_;have p0:=hc4;try simp only[amc]at p0
 have p1:=kW;try simp only[amc]at p1
 refine akP S results275 ?_;exact⟨dS (by unfold gq; (repeat' split)<;>omega),rfl⟩
theorem OJ(n:Int)(w:World) :
  Calls prog 269 #[.i n] w fun e w'=>e = .returned (.i (gq n (-1048576) 1048576))∧w=w':=by
 skip;refine akN func269 ntmps269 fun ac S=>akJ fun _ aS=>adr S 1 [] [(2,.i 0)] fun S=>akI<|aS _ _<|akJ fun _ fD=>adr S 1 [] [(3,.i n)] fun S=>ak4 S 4 (XF (n) (-1048576) (1048576) _) fun ac S=>adr S 1 [] [(2,.i (gq n (-1048576) (1048576)))] fun S=>akI<|fD _ _<|akM S results269 ?_;exact⟨rfl,rfl⟩
theorem aax(x y:Int)(w:World) :
  Calls prog 250 #[.agg #[.i x,.i y]] w fun e w'=>e = .returned (.agg #[.i (gq x (-1048576) 1048576),.i (gq y (-1048576) 1048576)])∧Ext w w':=by
 skip;refine akN func250 ntmps250 fun ac S=>akJ fun _ aS=>akK S 1 [.i x,.i y] fun ac u b2 E3 hb4 S=>akK S 2 [.i 0,.i 0] fun ac u b5 E6 hb7 S=>akI<|aS _ _<|akJ fun _ dP=>adr S 1 [] [(3,.func (.func 269) #[] #[])] fun S=>akI<|dP _ _<|ak6 fun _ iq=>akU S 9 [.mem 1 0,.mem 1 1] [(_,_,true,.i (gq x (-1048576) 1048576)),(_,_,true,.i (gq y (-1048576) 1048576))] [(12,.agg #[.i (gq x (-1048576) 1048576),.i (gq y (-1048576) 1048576)])] ⟨fun u hC g=>akZ (OJ x _),fun u hC g=>akZ (OJ y _),trivial⟩ fun ac u zZ S=>akO S 0 (off:=0) (cs:=[.i (gq x (-1048576) 1048576),.i (gq y (-1048576) 1048576)]) rfl fun u C11 S=>akI<|iq _ _<|akW S 0 results250 rfl (v := .agg #[.i (gq x (-1048576) 1048576),.i (gq y (-1048576) 1048576)]) ?_;exact⟨rfl,S.E⟩
theorem lg(x y:Int)(w:World) :
  Calls prog 225 #[.agg #[.i x,.i y]] w fun e w'=>e = .returned (.bool (kK.valid ⟨x,y⟩))∧Ext w w':=by
 skip;refine akN func225 ntmps225 fun ac S=>akJ fun _ aS=>akK S 1 [.i x,.i y] fun ac u b2 E3 hb4 S=>adr S 1 [] [(2,.bool false)] fun S=>akI<|aS _ _<|ak6 fun _ dB=>akU S 4 [.mem 0 0,.mem 0 0,.cmp .eql 60 (.tmp 4) (.tmp 5) (.agg #[.i (gq x (-1048576) 1048576),.i (gq y (-1048576) 1048576)]) (.agg #[.i x,.i y]) (.bool (((gq x (-1048576) 1048576)==x)&&((gq y (-1048576) 1048576)==y)))] [(_,_,true,.agg #[.i (gq x (-1048576) 1048576),.i (gq y (-1048576) 1048576)])] [(6,.bool (((gq x (-1048576) 1048576)==x)&&((gq y (-1048576) 1048576)==y)))] ⟨fun u hC g=>aax x y _,trivial⟩ (hk:=⟨ak2 (fun _=>eqPt ..) (by kernel_rfl),trivial⟩) fun ac u E6 S=>adr S 1 [] [(2,.bool (((gq x (-1048576) 1048576)==x)&&((gq y (-1048576) 1048576)==y)))] fun S=>akI<|dB _ _<|akM S results225 ?_;exact⟨by rw[←OI],S.E⟩
theorem yA(v:Int)(w:World) :
  Calls prog 193 #[.i v] w fun e w'=>e = .returned (.i (named v))∧w=w':=by
 skip;refine akN func193 ntmps193 fun ac S=>akJ fun _ aS=>adr S 1 [] [(2,.i 0)] fun S=>akI<|aS _ _<|akJ fun _ fD=>adr S 1 [] [(3,.i 0)] fun S=>akI<|fD _ _<|ak6 fun _ iD=>akJ fun _ lI=>adr S 1 [] [(4,.i v)] fun S=>akI<|lI _ _<|ak8<|ak6 fun _ dB=>ak8<|ak6 fun _ je=>ak8<|ak6 fun _ kJ=>ak8<|ak6 fun _ dP=>ak8<|ak6 fun _ iq=>ak8<|ak6 fun _ fE=>ak6 fun _ dn=>akJ fun _ cO=>adr S 2 [] [(5,.bool ((v)==4))] fun S=>akI (cO _ _ ?_);refine akL S (fun hc13=>?_) (fun hc13=>?_)
 ·refine alk<|iq _ _<|alc<|adr S 3 [] [(3,.i 1)] fun S=>akI<|dP _ _<|alc<|adr S 3 [] [(3,.i 2)] fun S=>akI<|kJ _ _<|akJ fun _ fH=>adr S 3 [] [(3,.i 3)] fun S=>akI<|fH _ _<|alk<|iD _ _<|akJ fun _ fJ=>adr S 2 [] [(2,.i 3)] fun S=>akI<|fJ _ _<|ala ?_;have p0:=hc13;try simp only[alu]at p0
  refine akP S results193 ?_;exact⟨dS (by unfold named; (repeat' split)<;>omega),rfl⟩
 refine ak7<|dn _ _<|ak6 fun _ jC=>akJ fun _ gJ=>adr S 2 [] [(7,.bool ((v)==3))] fun S=>akI (gJ _ _ ?_);refine akL S (fun hc18=>?_) (fun hc18=>?_)
 ·refine alk<|dP _ _<|alc<|adr S 3 [] [(3,.i 1)] fun S=>akI<|kJ _ _<|akJ fun _ jf=>adr S 3 [] [(3,.i 2)] fun S=>akI<|jf _ _<|alk<|iD _ _<|akJ fun _ iT=>adr S 2 [] [(2,.i 2)] fun S=>akI<|iT _ _<|ala ?_;have p0:=hc13;try simp only[alp,ne_eq]at p0
  have p1:=hc18;try simp only[alu]at p1
  refine akP S results193 ?_;exact⟨dS (by unfold named; (repeat' split)<;>omega),rfl⟩
 refine ak7<|jC _ _<|ak6 fun _ jI=>ak6 fun _ jJ=>akJ fun _ lX=>adr S 2 [] [(9,.bool ((v)==1))] fun S=>akI (lX _ _ ?_);refine akL S (fun hc24=>?_) (fun hc24=>?_)
 ·refine ak7<|jJ _ _ ?_;refine akL S (fun hc25=>?_) (fun hc25=>?_)
  ·refine alk<|kJ _ _<|akJ fun _ jZ=>adr S 3 [] [(3,.i 1)] fun S=>akI<|jZ _ _<|alk<|iD _ _<|akJ fun _ kL=>adr S 2 [] [(2,.i 1)] fun S=>akI<|kL _ _<|ala ?_;have p0:=hc13;try simp only[alp,ne_eq]at p0
   have p1:=hc18;try simp only[alp,ne_eq]at p1
   have p2:=hc24;try simp only[alu]at p2
   have p3:=hc25;try simp only[alu]at p3
   refine akP S results193 ?_;exact⟨dS (by unfold named; (repeat' split)<;>omega),rfl⟩
  refine ak7<|jI _ _<|akJ fun _ lF=>adr S 2 [] [(12,.bool ((v)==5))] fun S=>akI (lF _ _ ?_);refine akL S (fun hc29=>?_) (fun hc29=>?_)
  ·refine alk<|je _ _<|alk<|iD _ _<|akJ fun _ nN=>adr S 2 [] [(2,.i 0)] fun S=>akI<|nN _ _<|ala ?_;have p0:=hc13;try simp only[alp,ne_eq]at p0
   have p1:=hc18;try simp only[alp,ne_eq]at p1
   have p2:=hc24;try simp only[alu]at p2
   have p3:=hc25;try simp only[alp,ne_eq]at p3
   have p4:=hc29;try simp only[alu]at p4
   refine akP S results193 ?_;exact⟨dS (by unfold named; (repeat' split)<;>omega),rfl⟩
  refine ak7<|fE _ _<|alk<|dB _ _<|ak6 fun _ oL=>akJ fun _ kP=>adr S 1 [] [(2,.i (-1))] fun S=>akI<|kP _ _<|ala ?_;have p0:=hc13;try simp only[alp,ne_eq]at p0
  have p1:=hc18;try simp only[alp,ne_eq]at p1
  have p2:=hc24;try simp only[alu]at p2
  have p3:=hc25;try simp only[alp,ne_eq]at p3
  have p4:=hc29;try simp only[alp,ne_eq]at p4
  refine akP S results193 ?_;exact⟨dS (by unfold named; (repeat' split)<;>omega),rfl⟩
 refine alc<|adr S 2 [] [(9,.bool ((v)==2))] fun S=>akI (jJ _ _ ?_);refine akL S (fun oh=>?_) (fun oh=>?_)
 ·refine alk<|kJ _ _<|akJ fun _ tJ=>adr S 3 [] [(3,.i 1)] fun S=>akI<|tJ _ _<|alk<|iD _ _<|akJ fun _ lY=>adr S 2 [] [(2,.i 1)] fun S=>akI<|lY _ _<|ala ?_;have p0:=hc13;try simp only[alp,ne_eq]at p0
  have p1:=hc18;try simp only[alp,ne_eq]at p1
  have p2:=hc24;try simp only[alp,ne_eq]at p2
  have p3:=oh;try simp only[alu]at p3
  refine akP S results193 ?_;exact⟨dS (by unfold named; (repeat' split)<;>omega),rfl⟩
 refine ak7<|jI _ _<|akJ fun _ lZ=>adr S 2 [] [(12,.bool ((v)==5))] fun S=>akI (lZ _ _ ?_);refine akL S (fun mD=>?_) (fun mD=>?_)
 ·refine alk<|je _ _<|alk<|iD _ _<|akJ fun _ iW=>adr S 2 [] [(2,.i 0)] fun S=>akI<|iW _ _<|ala ?_;have p0:=hc13;try simp only[alp,ne_eq]at p0
  have p1:=hc18;try simp only[alp,ne_eq]at p1
  have p2:=hc24;try simp only[alp,ne_eq]at p2
  have p3:=oh;try simp only[alp,ne_eq]at p3
  have p4:=mD;try simp only[alu]at p4
  refine akP S results193 ?_;exact⟨dS (by unfold named; (repeat' split)<;>omega),rfl⟩
 refine ak7<|fE _ _<|alk<|dB _ _<|ak6 fun _ qB=>akJ fun _ wO=>adr S 1 [] [(2,.i (-1))] fun S=>akI<|wO _ _<|ala ?_;have p0:=hc13;try simp only[alp,ne_eq]at p0
 have p1:=hc18;try simp only[alp,ne_eq]at p1
 have p2:=hc24;try simp only[alp,ne_eq]at p2
 have p3:=oh;try simp only[alp,ne_eq]at p3
 have p4:=mD;try simp only[alp,ne_eq]at p4
 refine akP S results193 ?_;exact⟨dS (by unfold named; (repeat' split)<;>omega),rfl⟩
theorem fits_any(s:dY)(w:World) :
  Calls prog 194 #[.agg #[.i s.verb,.i s.a.x,.i s.a.y,.i s.b.x,.i s.b.y,.i s.c.x,.i s.c.y]] w fun e w'=>e = .returned (.bool s.fits)∧Ext w w':=by
 skip;refine akN func194 ntmps194 fun ac S=>akJ fun _ aS=>akK S 1 s.cells fun ac u b2 E3 hb4 S=>adr S 1 [] [(2,.bool false)] fun S=>akI<|aS _ _<|ak6 fun _ dB=>akJ fun _ je=>adr S 6 [.mem 0 1,.mem 0 3,.mem 0 5] [(6,.agg #[.i s.a.x,.i s.a.y]),(8,.agg #[.i s.b.x,.i s.b.y]),(10,.agg #[.i s.c.x,.i s.c.y])] fun S=>ak5 S 11 3 [.i s.a.x,.i s.a.y,.i s.b.x,.i s.b.y,.i s.c.x,.i s.c.y] fun ac u b7 E8 hb9 S=>adr S 2 [] [(12,.i 3),(13,.i 0)] fun S=>akI<|je _ _<|ak8<|amn 4 ?_;rw[aln];refine akJ fun _ fE=>adr S 1 [] [(14,.bool true)] fun S=>akI<|fE _ _<|ak6 fun _ dn=>akT S<|ak7<|dn _ _<|ak6 fun _ cO=>ak8<|akJ fun _ gu=>adr S 3 [.mem 0 0] [(15,.i 0),(17,.agg #[.i s.a.x,.i s.a.y])] fun S=>akK S 4 [.i 0,.i 0] fun ac u b14 NQ hb16 S=>adr S 1 [] [(3,.i 0)] fun S=>akO S 0 (off:=0) (cs:=[.i s.a.x,.i s.a.y]) rfl fun u C17 S=>akI<|gu _ _<|akJ fun _ jh=>adr S 1 [.mem 0 0] [(18,.agg #[.i s.a.x,.i s.a.y])] fun S=>akQ S 19 (lg (s.a.x) (s.a.y) _) fun ac u MS S=>akX S 13 [.mem 2 0,.mem 0 0,.cmp .neq 60 (.tmp 28) (.tmp 29) (.agg #[.i s.a.x,.i s.a.y]) (.agg #[.i 0,.i 0]) (.bool (!((s.a.x==0)&&(s.a.y==0))))] [(_,_,(!(!(kK.valid ⟨s.a.x,s.a.y⟩))),.i (named s.verb))] [(32,.bool ((!(kK.valid ⟨s.a.x,s.a.y⟩))||((decide ((named s.verb)≤0))&&(!((s.a.x==0)&&(s.a.y==0))))))] ⟨fun u hC g=>akZ (yA (s.verb) _),trivial⟩ (hk:=⟨ak2 (fun _=>XG ..) (by kernel_rfl),trivial⟩) fun ac u zk S=>akI (jh _ _ ?_);refine akL S (fun hc21=>?_) (fun hc21=>?_)
 ·refine akJ fun _ jJ=>adr S 1 [] [(2,.bool false)] fun S=>akI<|jJ _ _<|ala ?_;have g0:kS s.verb 0 s.a=false:=by
   have hh:=hc21;show(kK.valid ⟨s.a.x,s.a.y⟩ && !(decide (named s.verb≤0) && !((s.a.x==0)&&(s.a.y==0))))=_;revert hh;cases kK.valid ⟨s.a.x,s.a.y⟩<;>cases decide (named s.verb≤0)<;>cases ((s.a.x==0)&&(s.a.y==0))<;>simp
  refine akP S results194 ?_;exact⟨by rw[show s.fits=false from by simp[dY.fits,g0]],S.E⟩
 refine ak7<|cO _ _<|alc<|adr S 2 [] [(13,.i 1)] fun S=>akI ?_;show Code.rounds _ _ _ 3 _ _;rw[aln];refine akJ fun _ lX=>adr S 1 [] [(14,.bool true)] fun S=>akI<|lX _ _<|ak6 fun _ kN=>akT S<|ak7<|kN _ _<|ak6 fun _ tK=>ak8<|akJ fun _ jZ=>adr S 3 [.mem 1 2] [(15,.i 1),(17,.agg #[.i s.b.x,.i s.b.y])] fun S=>akK S 4 [.i 0,.i 0] fun ac u b27 Ze Aj S=>adr S 1 [] [(3,.i 1)] fun S=>akO S 0 (off:=0) (cs:=[.i s.b.x,.i s.b.y]) rfl fun u YE S=>akI<|jZ _ _<|akJ fun _ oL=>adr S 1 [.mem 0 0] [(18,.agg #[.i s.b.x,.i s.b.y])] fun S=>akQ S 19 (lg (s.b.x) (s.b.y) _) fun ac u E32 S=>akX S 13 [.mem 3 0,.mem 0 0,.cmp .neq 60 (.tmp 28) (.tmp 29) (.agg #[.i s.b.x,.i s.b.y]) (.agg #[.i 0,.i 0]) (.bool (!((s.b.x==0)&&(s.b.y==0))))] [(_,_,(!(!(kK.valid ⟨s.b.x,s.b.y⟩))),.i (named s.verb))] [(32,.bool ((!(kK.valid ⟨s.b.x,s.b.y⟩))||((decide ((named s.verb)≤1))&&(!((s.b.x==0)&&(s.b.y==0))))))] ⟨fun u hC g=>akZ (yA (s.verb) _),trivial⟩ (hk:=⟨ak2 (fun _=>XG ..) (by kernel_rfl),trivial⟩) fun ac u E33 S=>akI (oL _ _ ?_);refine akL S (fun hc34=>?_) (fun hc34=>?_)
 ·refine akJ fun _ lY=>adr S 1 [] [(2,.bool false)] fun S=>akI<|lY _ _<|ala ?_;have g0:kS s.verb 0 s.a=true:=by
   have hh:=hc21;show(kK.valid ⟨s.a.x,s.a.y⟩ && !(decide (named s.verb≤0) && !((s.a.x==0)&&(s.a.y==0))))=_;revert hh;cases kK.valid ⟨s.a.x,s.a.y⟩<;>cases decide (named s.verb≤0)<;>cases ((s.a.x==0)&&(s.a.y==0))<;>simp
  have g1:kS s.verb 1 s.b=false:=by
   have hh:=hc34;show(kK.valid ⟨s.b.x,s.b.y⟩ && !(decide (named s.verb≤1) && !((s.b.x==0)&&(s.b.y==0))))=_;revert hh;cases kK.valid ⟨s.b.x,s.b.y⟩<;>cases decide (named s.verb≤1)<;>cases ((s.b.x==0)&&(s.b.y==0))<;>simp
  refine akP S results194 ?_;exact⟨by rw[show s.fits=false from by simp[dY.fits,g0,g1]],S.E⟩
 refine ak7<|tK _ _<|alc<|adr S 2 [] [(13,.i 2)] fun S=>akI ?_;show Code.rounds _ _ _ 2 _ _;rw[aln];refine akJ fun _ lZ=>adr S 1 [] [(14,.bool true)] fun S=>akI<|lZ _ _<|ak6 fun _ oH=>akT S<|ak7<|oH _ _<|ak6 fun _ iW=>ak8<|akJ fun _ qB=>adr S 3 [.mem 2 4] [(15,.i 2),(17,.agg #[.i s.c.x,.i s.c.y])] fun S=>akK S 4 [.i 0,.i 0] fun ac u b40 E41 afS S=>adr S 1 [] [(3,.i 2)] fun S=>akO S 0 (off:=0) (cs:=[.i s.c.x,.i s.c.y]) rfl fun u C43 S=>akI<|qB _ _<|akJ fun _ wP=>adr S 1 [.mem 0 0] [(18,.agg #[.i s.c.x,.i s.c.y])] fun S=>akQ S 19 (lg (s.c.x) (s.c.y) _) fun ac u E45 S=>akX S 13 [.mem 4 0,.mem 0 0,.cmp .neq 60 (.tmp 28) (.tmp 29) (.agg #[.i s.c.x,.i s.c.y]) (.agg #[.i 0,.i 0]) (.bool (!((s.c.x==0)&&(s.c.y==0))))] [(_,_,(!(!(kK.valid ⟨s.c.x,s.c.y⟩))),.i (named s.verb))] [(32,.bool ((!(kK.valid ⟨s.c.x,s.c.y⟩))||((decide ((named s.verb)≤2))&&(!((s.c.x==0)&&(s.c.y==0))))))] ⟨fun u hC g=>akZ (yA (s.verb) _),trivial⟩ (hk:=⟨ak2 (fun _=>XG ..) (by kernel_rfl),trivial⟩) fun ac u Zv S=>akI (wP _ _ ?_);refine akL S (fun hc47=>?_) (fun hc47=>?_)
 ·refine akJ fun _ wC=>adr S 1 [] [(2,.bool false)] fun S=>akI<|wC _ _<|ala ?_;have g0:kS s.verb 0 s.a=true:=by
   have hh:=hc21;show(kK.valid ⟨s.a.x,s.a.y⟩ && !(decide (named s.verb≤0) && !((s.a.x==0)&&(s.a.y==0))))=_;revert hh;cases kK.valid ⟨s.a.x,s.a.y⟩<;>cases decide (named s.verb≤0)<;>cases ((s.a.x==0)&&(s.a.y==0))<;>simp
  have g1:kS s.verb 1 s.b=true:=by
   have hh:=hc34;show(kK.valid ⟨s.b.x,s.b.y⟩ && !(decide (named s.verb≤1) && !((s.b.x==0)&&(s.b.y==0))))=_;revert hh;cases kK.valid ⟨s.b.x,s.b.y⟩<;>cases decide (named s.verb≤1)<;>cases ((s.b.x==0)&&(s.b.y==0))<;>simp
  have g2:kS s.verb 2 s.c=false:=by
   have hh:=hc47;show(kK.valid ⟨s.c.x,s.c.y⟩ && !(decide (named s.verb≤2) && !((s.c.x==0)&&(s.c.y==0))))=_;revert hh;cases kK.valid ⟨s.c.x,s.c.y⟩<;>cases decide (named s.verb≤2)<;>cases ((s.c.x==0)&&(s.c.y==0))<;>simp
  refine akP S results194 ?_;exact⟨by rw[show s.fits=false from by simp[dY.fits,g0,g1,g2]],S.E⟩
 refine ak7<|iW _ _<|alc<|adr S 2 [] [(13,.i 3)] fun S=>akI ?_;show Code.rounds _ _ _ 1 _ _;rw[aln];refine akJ fun _ wE=>adr S 1 [] [(14,.bool false)] fun S=>akI<|wE _ _<|ak6 fun _ Ac=>ak1 S<|alk<|dB _ _<|akJ fun _ EF=>adr S 1 [] [(2,.bool true)] fun S=>akI<|EF _ _<|ala ?_;have g0:kS s.verb 0 s.a=true:=by
  have hh:=hc21;show(kK.valid ⟨s.a.x,s.a.y⟩ && !(decide (named s.verb≤0) && !((s.a.x==0)&&(s.a.y==0))))=_;revert hh;cases kK.valid ⟨s.a.x,s.a.y⟩<;>cases decide (named s.verb≤0)<;>cases ((s.a.x==0)&&(s.a.y==0))<;>simp
 have g1:kS s.verb 1 s.b=true:=by
  have hh:=hc34;show(kK.valid ⟨s.b.x,s.b.y⟩ && !(decide (named s.verb≤1) && !((s.b.x==0)&&(s.b.y==0))))=_;revert hh;cases kK.valid ⟨s.b.x,s.b.y⟩<;>cases decide (named s.verb≤1)<;>cases ((s.b.x==0)&&(s.b.y==0))<;>simp
 have g2:kS s.verb 2 s.c=true:=by
  have hh:=hc47;show(kK.valid ⟨s.c.x,s.c.y⟩ && !(decide (named s.verb≤2) && !((s.c.x==0)&&(s.c.y==0))))=_;revert hh;cases kK.valid ⟨s.c.x,s.c.y⟩<;>cases decide (named s.verb≤2)<;>cases ((s.c.x==0)&&(s.c.y==0))<;>simp
 refine akP S results194 ?_;exact⟨by rw[show s.fits=true from by simp[dY.fits,g0,g1,g2]],S.E⟩
open Go.RowKit
variable{α:Type}
theorem OL{x:dY}{last:Int}(h:decide (named x.verb<0)=true):x.err last=2:=ale (alj h)
theorem Jy{x:dY}{last:Int}(h:decide (named x.verb<0)=false)(h1:(!x.stands last)=true):x.err last=10:=by
 unfold dY.err; rw[ak9 (alo h),ale (by simpa using h1)]
theorem AL{x:dY}{last:Int}(h:decide (named x.verb<0)=false)(h1:(!x.stands last)=false)(h2:(!x.fits)=true):x.err last=6:=by
 unfold dY.err; rw[ak9 (alo h),ak9 (by simpa using h1),ale (by simpa using h2)]
theorem OM{x:dY}{last:Int}(h:decide (named x.verb<0)=false)(h1:(!x.stands last)=false)(h2:(!x.fits)=false):x.err last=0:=by
 unfold dY.err; rw[ak9 (alo h),ak9 (by simpa using h1),ak9 (by simpa using h2)]
theorem II{w:World}{v:Value}{l:List dY}(h:nT w v l) :
  Calls prog 154 #[v] w fun e w'=>e = .returned (.tuple #[.i (dK l).1,.i (dK l).2])∧Ext w w':=by
 obtain⟨a,cap,rfl⟩:=h.1.shape;have hmax:l.length≤9223372036854775807:=h.1.len;refine akN func154 ntmps154 fun ac S=>akJ fun _ aS=>adr S 2 [] [(2,.i 0),(3,.i 0)] fun S=>akI<|aS _ _<|ak6 fun _ fD=>akJ fun _ iD=>adr S 3 [] [(10,.bool (256<(l.length:Int)))] fun S=>akI (iD _ _ ?_);refine akL S (fun hc4=>?_) (fun hc4=>?_)
 ·refine akJ fun _ dB=>adr S 2 [] [(2,.i 5),(3,.i 256)] fun S=>akI<|dB _ _<|ala ?_;have p0:256<(l.length:Int):=alj hc4;refine Sx.xB S results154 ?_;have e:dK l=(5,256):=by unfold dK; rw[ale p0]
  exact⟨by rw[e],S.E⟩
 refine ak7<|fD _ _<|akJ fun _ je=>adr S 1 [] [(4,.i 5)] fun S=>akI<|je _ _<|ak6 fun _ kJ=>akJ fun _ dP=>adr S 3 [] [(11,.slice a l.length cap),(12,.i l.length),(13,.i 0)] fun S=>akI<|dP _ _<|ak8 ?_;refine alC (ι:=Nat×Int) (fun p a' w'=>p.1≤l.length∧(lT 5 0 l=lT p.2 (p.1:Int) (l.drop p.1))∧Sx.St w a' w' 52 [(0,.slice a l.length cap),(2,.i 0),(3,.i 0),(4,.i p.2),(11,.slice a l.length cap),(12,.i l.length),(13,.i p.1)] [] []) (fun p=>l.length-p.1) (0,5) ⟨alg _,rfl,S.sn⟩ ?_;rintro⟨k,last⟩ ac u hI;try dsimp only at hI
 obtain⟨hk,hR,S⟩:=hI;refine akJ fun _ iq=>adr S 1 [] [(14,.bool ((k:Int)<(l.length:Int)))] fun S=>akI<|iq _ _<|ak6 (fun _ fE=>?_);refine akL S (fun fU=>?_) (fun fU=>?_)
 ·refine ak7<|fE _ _<|ak6 fun _ cO=>ak8<|akJ (fun _ gu=>?_);have kC:k<l.length:=by have:=alj fU; omega
  obtain⟨b14,o15,rfl,x20,qm,zn,BL⟩:=als h.1 (fun _=>rfl) (k) kC;have S:=S.view0 zn BL;refine adr S 3 [.idx k l.length,.mem 0 0] [(15,.i k),(17,.agg x20.cells.toArray)] (hk:=⟨kC,trivial⟩) fun S=>akK S 6 [.i 0,.i 0,.i 0,.i 0,.i 0,.i 0,.i 0] fun ac u b22 CQ RX S=>adr S 1 [] [(5,.i k)] fun S=>akO S 0 (off:=0) (cs:=x20.cells) rfl fun u C25 S=>akI<|gu _ _<|akJ fun _ jZ=>adr S 17 [.mem 0 0,.mem 0 0] [(7,.bool (((x20.verb)==1)||(((last) != 5)&&(((x20.verb) != 5)||((last) != 1)))))] fun S=>akI<|jZ _ _<|ak6 fun _ kL=>ak8<|akJ fun _ lF=>adr S 2 [.mem 0 0] [(36,.i x20.verb)] fun S=>ak4 S 37 (yA (x20.verb) _) fun ac S=>adr S 2 [] [(34,.bool ((named x20.verb)<0))] fun S=>akI (lF _ _ ?_);refine akL S (fun hc29=>?_) (fun hc29=>?_)
  ·refine akJ fun _ nN=>adr S 3 [] [(2,.i 2),(3,.i k)] fun S=>akI<|nN _ _<|ala ?_;have herr:x20.err last=2:=OL hc29;have p0:¬256<(l.length:Int):=alo hc4;refine Sx.xB S results154 ?_;have e:dK l=(2,(k:Int)):=by
    unfold dK;rw[ak9 (by omega),hR,al8 kC,qm,lT,herr];rfl
   exact⟨by rw[e],S.E⟩
  refine akJ fun _ oL=>adr S 3 [] [(40,.bool (!(((x20.verb)==1)||(((last) != 5)&&(((x20.verb) != 5)||((last) != 1))))))] fun S=>akI (oL _ _ ?_);refine akL S (fun hc32=>?_) (fun hc32=>?_)
  ·refine akJ fun _ oK=>adr S 3 [] [(2,.i 10),(3,.i k)] fun S=>akI<|oK _ _<|ala ?_;have herr:x20.err last=10:=Jy hc29 hc32;have p0:¬256<(l.length:Int):=alo hc4;refine Sx.xB S results154 ?_;have e:dK l=(10,(k:Int)):=by
    unfold dK;rw[ak9 (by omega),hR,al8 kC,qm,lT,herr];rfl
   exact⟨by rw[e],S.E⟩
  refine akJ fun _ tJ=>adr S 1 [.mem 0 0] [(45,.agg x20.cells.toArray)] fun S=>akQ S 46 (fits_any x20 _) fun ac u I8 S=>adr S 2 [] [(44,.bool (!x20.fits))] fun S=>akI (tJ _ _ ?_);refine akL S (fun zC=>?_) (fun zC=>?_)
  ·refine akJ fun _ oH=>adr S 3 [] [(2,.i 6),(3,.i k)] fun S=>akI<|oH _ _<|ala ?_;have herr:x20.err last=6:=AL hc29 hc32 zC;have p0:¬256<(l.length:Int):=alo hc4;refine Sx.xB S results154 ?_;have e:dK l=(6,(k:Int)):=by
    unfold dK;rw[ak9 (by omega),hR,al8 kC,qm,lT,herr];rfl
   exact⟨by rw[e],S.E⟩
  refine ak7<|kL _ _<|alc<|adr S 3 [.mem 0 0] [(4,.i x20.verb)] fun S=>akI<|cO _ _<|alc<|adr S 2 [.re 51 (.i (IntKind.i64.wrap ((k:Int)+1))) (.i (k+1:Nat))] [(13,.i (k+1:Nat))] (hk:=⟨akV (by omega),trivial⟩) fun S=>akI ?_;show ∃i',_∧_;have herr:x20.err last=0:=OM hc29 hc32 zC;rw[al8 kC,qm,lT,ale herr]at hR;exact⟨((k+1),x20.verb),⟨by omega,hR,(S.sub [(0,.slice (some ⟨b14,o15,none⟩) l.length cap),(2,.i 0),(3,.i 0),(4,.i x20.verb),(11,.slice (some ⟨b14,o15,none⟩) l.length cap),(12,.i l.length),(13,.i (k+1:Nat))]).sS.sJ 1⟩,by show _-_<_-_; omega⟩
 refine alk<|kJ _ _<|akJ fun _ iW=>adr S 2 [] [(2,.i 0),(3,.i 0)] fun S=>akI<|iW _ _<|ala ?_;have p0:¬256<(l.length:Int):=alo hc4;have p1:¬(k:Int)<(l.length:Int):=alo fU;refine Sx.xB S results154 ?_;have e:dK l=(0,0):=by
  unfold dK;rw[ak9 (by omega),hR,amd (by omega)];rfl
 exact⟨by rw[e],S.E⟩
theorem yS{w:World}{v:Value}{l:List dY}(h:nT w v l) :
  Calls prog 117 #[v] w fun e w'=>e = .returned (.bool (iY l))∧Ext w w':=by
 skip;refine akN func117 ntmps117 fun ac S=>akJ fun _ aS=>adr S 1 [] [(2,.bool false)] fun S=>akI<|aS _ _<|akJ fun _ fD=>adr S 1 [] [(6,v)] fun S=>akQ S 7 (II (h.below S.E)) fun ac u E3 S=>adr S 5 [] [(3,.i ((dK l).1))] fun S=>akI<|fD _ _<|akJ fun _ lI=>adr S 3 [] [(2,.bool (((dK l).1)==0))] fun S=>akI<|lI _ _<|akM S results117 ?_;exact⟨rfl,S.E⟩
end Go.Proofs.YtfmkkemfhjkajaaGreatDoor
