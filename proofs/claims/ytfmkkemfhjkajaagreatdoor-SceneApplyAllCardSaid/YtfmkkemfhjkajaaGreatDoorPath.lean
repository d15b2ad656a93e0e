/- Walks of packages intmath, vec and path: what the checks of a path answer. -/
import Derived.Test.YtfmkkemfhjkajaaGreatDoorPk13
import Derived.Test.YtfmkkemfhjkajaaGreatDoorSy
import Derived.LoopN
set_option linter.unusedVariables false
set_option maxHeartbeats 1600000
set_option maxRecDepth 100000
namespace Go.Proofs.YtfmkkemfhjkajaaGreatDoor
open Go.RowKit
variable{α:Type}
def gK(n lo hi:Int):Int:=if n<lo then lo else if hi<n then hi else n
theorem O9(x y:Int):((gK x (-1048576) 1048576==x)&&(gK y (-1048576) 1048576==y))=kU.valid ⟨x,y⟩:=by
 have h:∀z:Int,(gK z (-1048576) 1048576==z)=cok z:=by
  intro z;rw[Bool.eq_iff_iff];unfold gK cok;simp only[beq_iff_eq,Bool.and_eq_true,decide_eq_true_eq];(repeat' split)<;>omega
 rw[h,h]; rfl
theorem XM(n lo hi:Int)(w:World) :
  Calls Tryz.prog 275 #[.i n,.i lo,.i hi] w fun e w'=>e = .returned (.i (gK n lo hi))∧w=w':=by
 skip;refine akk Tryz.func275 Tryz.ntmps275 fun ac S=>akg fun _ aP=>adr S 1 [] [(6,.i 0)] fun S=>akf<|aP _ _<|wp_seq_k fun _ fE=>wp_block<|akg fun _ iM=>adr S 4 [] [(7,.bool (n<lo))] fun S=>akf (iM _ _ ?_);refine aki S (fun hc4=>?_) (fun hc4=>?_)
 ·refine akg fun _ dG=>adr S 2 [] [(6,.i lo)] fun S=>akf<|dG _ _<|Vp.rt ?_;have p0:=hc4;try simp only[decide_eq_true_eq]at p0
  refine akm S Tryz.results275 ?_;exact⟨dX (by unfold gK; (repeat' split)<;>omega),rfl⟩
 refine akg fun _ jl=>adr S 4 [] [(12,.bool (hi<n))] fun S=>akf (jl _ _ ?_);refine aki S (fun lD=>?_) (fun lD=>?_)
 ·refine akg fun _ dM=>adr S 2 [] [(6,.i hi)] fun S=>akf<|dM _ _<|Vp.rt ?_;have p0:=hc4;try simp only[decide_eq_false_iff_not]at p0
  have p1:=lD;try simp only[decide_eq_true_eq]at p1
  refine akm S Tryz.results275 ?_;exact⟨dX (by unfold gK; (repeat' split)<;>omega),rfl⟩
 refine wp_skip<|fE _ _<|akg fun _ gX=>adr S 2 [] [(6,.i n)] fun S=>akf<|gX _ _<|Vp.rt ?_;have p0:=hc4;try simp only[decide_eq_false_iff_not]at p0
 have p1:=lD;try simp only[decide_eq_false_iff_not]at p1
 refine akm S Tryz.results275 ?_;exact⟨dX (by unfold gK; (repeat' split)<;>omega),rfl⟩
theorem Pg(n:Int)(w:World) :
  Calls Tryz.prog 269 #[.i n] w fun e w'=>e = .returned (.i (gK n (-1048576) 1048576))∧w=w':=by
 skip;refine akk Tryz.func269 Tryz.ntmps269 fun ac S=>akg fun _ aP=>adr S 1 [] [(2,.i 0)] fun S=>akf<|aP _ _<|akg fun _ fE=>adr S 1 [] [(3,.i n)] fun S=>akD S 4 (XM (n) (-1048576) (1048576) _) fun ac S=>adr S 1 [] [(2,.i (gK n (-1048576) (1048576)))] fun S=>akf<|fE _ _<|akj S Tryz.results269 ?_;exact⟨rfl,rfl⟩
theorem aaw(x y:Int)(w:World) :
  Calls Tryz.prog 250 #[.agg #[.i x,.i y]] w fun e w'=>e = .returned (.agg #[.i (gK x (-1048576) 1048576),.i (gK y (-1048576) 1048576)])∧Ext w w':=by
 skip;refine akk Tryz.func250 Tryz.ntmps250 fun ac S=>akg fun _ aP=>akh S 1 [.i x,.i y] fun ac u b2 E3 hb4 S=>akh S 2 [.i 0,.i 0] fun ac u b5 E6 hb7 S=>akf<|aP _ _<|akg fun _ dM=>adr S 1 [] [(3,.func (.func 269) #[] #[])] fun S=>akf<|dM _ _<|wp_seq_k fun _ gX=>akr S 9 [.mem 1 0,.mem 1 1] [(_,_,true,.i (gK x (-1048576) 1048576)),(_,_,true,.i (gK y (-1048576) 1048576))] [(12,.agg #[.i (gK x (-1048576) 1048576),.i (gK y (-1048576) 1048576)])] ⟨fun u hC g=>akw (Pg x _),fun u hC g=>akw (Pg y _),trivial⟩ fun ac u zV S=>akl S 0 (off:=0) (cs:=[.i (gK x (-1048576) 1048576),.i (gK y (-1048576) 1048576)]) rfl fun u C11 S=>akf<|gX _ _<|akt S 0 Tryz.results250 rfl (v := .agg #[.i (gK x (-1048576) 1048576),.i (gK y (-1048576) 1048576)]) ?_;exact⟨rfl,S.E⟩
theorem lJ(x y:Int)(w:World) :
  Calls Tryz.prog 225 #[.agg #[.i x,.i y]] w fun e w'=>e = .returned (.bool (kU.valid ⟨x,y⟩))∧Ext w w':=by
 skip;refine akk Tryz.func225 Tryz.ntmps225 fun ac S=>akg fun _ aP=>akh S 1 [.i x,.i y] fun ac u b2 E3 hb4 S=>adr S 1 [] [(2,.bool false)] fun S=>akf<|aP _ _<|wp_seq_k fun _ dG=>akr S 4 [.mem 0 0,.mem 0 0,.cmp .eql 60 (.tmp 4) (.tmp 5) (.agg #[.i (gK x (-1048576) 1048576),.i (gK y (-1048576) 1048576)]) (.agg #[.i x,.i y]) (.bool (((gK x (-1048576) 1048576)==x)&&((gK y (-1048576) 1048576)==y)))] [(_,_,true,.agg #[.i (gK x (-1048576) 1048576),.i (gK y (-1048576) 1048576)])] [(6,.bool (((gK x (-1048576) 1048576)==x)&&((gK y (-1048576) 1048576)==y)))] ⟨fun u hC g=>aaw x y _,trivial⟩ (hk:=⟨aky (fun _=>eqPt ..) (by kernel_rfl),trivial⟩) fun ac u E6 S=>adr S 1 [] [(2,.bool (((gK x (-1048576) 1048576)==x)&&((gK y (-1048576) 1048576)==y)))] fun S=>akf<|dG _ _<|akj S Tryz.results225 ?_;exact⟨by rw[←O9],S.E⟩
theorem yT(v:Int)(w:World) :
  Calls Tryz.prog 193 #[.i v] w fun e w'=>e = .returned (.i (named v))∧w=w':=by
 skip;refine akk Tryz.func193 Tryz.ntmps193 fun ac S=>akg fun _ aP=>adr S 1 [] [(2,.i 0)] fun S=>akf<|aP _ _<|akg fun _ fE=>adr S 1 [] [(3,.i 0)] fun S=>akf<|fE _ _<|wp_seq_k fun _ iM=>akg fun _ lX=>adr S 1 [] [(4,.i v)] fun S=>akf<|lX _ _<|wp_block<|wp_seq_k fun _ dG=>wp_block<|wp_seq_k fun _ jl=>wp_block<|wp_seq_k fun _ jT=>wp_block<|wp_seq_k fun _ dM=>wp_block<|wp_seq_k fun _ gX=>wp_block<|wp_seq_k fun _ fD=>wp_seq_k fun _ dn=>akg fun _ bV=>adr S 2 [] [(5,.bool ((v)==4))] fun S=>akf (bV _ _ ?_);refine aki S (fun hc13=>?_) (fun hc13=>?_)
 ·refine wp_exit<|gX _ _<|Vp.region<|adr S 3 [] [(3,.i 1)] fun S=>akf<|dM _ _<|Vp.region<|adr S 3 [] [(3,.i 2)] fun S=>akf<|jT _ _<|akg fun _ fC=>adr S 3 [] [(3,.i 3)] fun S=>akf<|fC _ _<|wp_exit<|iM _ _<|akg fun _ fP=>adr S 2 [] [(2,.i 3)] fun S=>akf<|fP _ _<|Vp.rt ?_;have p0:=hc13;try simp only[beq_iff_eq]at p0
  refine akm S Tryz.results193 ?_;exact⟨dX (by unfold named; (repeat' split)<;>omega),rfl⟩
 refine wp_skip<|dn _ _<|wp_seq_k fun _ jH=>akg fun _ gI=>adr S 2 [] [(7,.bool ((v)==3))] fun S=>akf (gI _ _ ?_);refine aki S (fun hc18=>?_) (fun hc18=>?_)
 ·refine wp_exit<|dM _ _<|Vp.region<|adr S 3 [] [(3,.i 1)] fun S=>akf<|jT _ _<|akg fun _ jI=>adr S 3 [] [(3,.i 2)] fun S=>akf<|jI _ _<|wp_exit<|iM _ _<|akg fun _ iT=>adr S 2 [] [(2,.i 2)] fun S=>akf<|iT _ _<|Vp.rt ?_;have p0:=hc13;try simp only[beq_eq_false_iff_ne,ne_eq]at p0
  have p1:=hc18;try simp only[beq_iff_eq]at p1
  refine akm S Tryz.results193 ?_;exact⟨dX (by unfold named; (repeat' split)<;>omega),rfl⟩
 refine wp_skip<|jH _ _<|wp_seq_k fun _ jJ=>wp_seq_k fun _ jv=>akg fun _ jU=>adr S 2 [] [(9,.bool ((v)==1))] fun S=>akf (jU _ _ ?_);refine aki S (fun hc24=>?_) (fun hc24=>?_)
 ·refine wp_skip<|jv _ _ ?_;refine aki S (fun hc25=>?_) (fun hc25=>?_)
  ·refine wp_exit<|jT _ _<|akg fun _ kN=>adr S 3 [] [(3,.i 1)] fun S=>akf<|kN _ _<|wp_exit<|iM _ _<|akg fun _ jK=>adr S 2 [] [(2,.i 1)] fun S=>akf<|jK _ _<|Vp.rt ?_;have p0:=hc13;try simp only[beq_eq_false_iff_ne,ne_eq]at p0
   have p1:=hc18;try simp only[beq_eq_false_iff_ne,ne_eq]at p1
   have p2:=hc24;try simp only[beq_iff_eq]at p2
   have p3:=hc25;try simp only[beq_iff_eq]at p3
   refine akm S Tryz.results193 ?_;exact⟨dX (by unfold named; (repeat' split)<;>omega),rfl⟩
  refine wp_skip<|jJ _ _<|akg fun _ jh=>adr S 2 [] [(12,.bool ((v)==5))] fun S=>akf (jh _ _ ?_);refine aki S (fun hc29=>?_) (fun hc29=>?_)
  ·refine wp_exit<|jl _ _<|wp_exit<|iM _ _<|akg fun _ jM=>adr S 2 [] [(2,.i 0)] fun S=>akf<|jM _ _<|Vp.rt ?_;have p0:=hc13;try simp only[beq_eq_false_iff_ne,ne_eq]at p0
   have p1:=hc18;try simp only[beq_eq_false_iff_ne,ne_eq]at p1
   have p2:=hc24;try simp only[beq_iff_eq]at p2
   have p3:=hc25;try simp only[beq_eq_false_iff_ne,ne_eq]at p3
   have p4:=hc29;try simp only[beq_iff_eq]at p4
   refine akm S Tryz.results193 ?_;exact⟨dX (by unfold named; (repeat' split)<;>omega),rfl⟩
  refine wp_skip<|fD _ _<|wp_exit<|dG _ _<|wp_seq_k fun _ qJ=>akg fun _ kW=>adr S 1 [] [(2,.i (-1))] fun S=>akf<|kW _ _<|Vp.rt ?_;have p0:=hc13;try simp only[beq_eq_false_iff_ne,ne_eq]at p0
  have p1:=hc18;try simp only[beq_eq_false_iff_ne,ne_eq]at p1
  have p2:=hc24;try simp only[beq_iff_eq]at p2
  have p3:=hc25;try simp only[beq_eq_false_iff_ne,ne_eq]at p3
  have p4:=hc29;try simp only[beq_eq_false_iff_ne,ne_eq]at p4
  refine akm S Tryz.results193 ?_;exact⟨dX (by unfold named; (repeat' split)<;>omega),rfl⟩
 refine Vp.region<|adr S 2 [] [(9,.bool ((v)==2))] fun S=>akf (jv _ _ ?_);refine aki S (fun lU=>?_) (fun lU=>?_)
 ·refine wp_exit<|jT _ _<|akg fun _ uq=>adr S 3 [] [(3,.i 1)] fun S=>akf<|uq _ _<|wp_exit<|iM _ _<|akg fun _ oh=>adr S 2 [] [(2,.i 1)] fun S=>akf<|oh _ _<|Vp.rt ?_;have p0:=hc13;try simp only[beq_eq_false_iff_ne,ne_eq]at p0
  have p1:=hc18;try simp only[beq_eq_false_iff_ne,ne_eq]at p1
  have p2:=hc24;try simp only[beq_eq_false_iff_ne,ne_eq]at p2
  have p3:=lU;try simp only[beq_iff_eq]at p3
  refine akm S Tryz.results193 ?_;exact⟨dX (by unfold named; (repeat' split)<;>omega),rfl⟩
 refine wp_skip<|jJ _ _<|akg fun _ lG=>adr S 2 [] [(12,.bool ((v)==5))] fun S=>akf (lG _ _ ?_);refine aki S (fun pI=>?_) (fun pI=>?_)
 ·refine wp_exit<|jl _ _<|wp_exit<|iM _ _<|akg fun _ jC=>adr S 2 [] [(2,.i 0)] fun S=>akf<|jC _ _<|Vp.rt ?_;have p0:=hc13;try simp only[beq_eq_false_iff_ne,ne_eq]at p0
  have p1:=hc18;try simp only[beq_eq_false_iff_ne,ne_eq]at p1
  have p2:=hc24;try simp only[beq_eq_false_iff_ne,ne_eq]at p2
  have p3:=lU;try simp only[beq_eq_false_iff_ne,ne_eq]at p3
  have p4:=pI;try simp only[beq_iff_eq]at p4
  refine akm S Tryz.results193 ?_;exact⟨dX (by unfold named; (repeat' split)<;>omega),rfl⟩
 refine wp_skip<|fD _ _<|wp_exit<|dG _ _<|wp_seq_k fun _ xg=>akg fun _ Ai=>adr S 1 [] [(2,.i (-1))] fun S=>akf<|Ai _ _<|Vp.rt ?_;have p0:=hc13;try simp only[beq_eq_false_iff_ne,ne_eq]at p0
 have p1:=hc18;try simp only[beq_eq_false_iff_ne,ne_eq]at p1
 have p2:=hc24;try simp only[beq_eq_false_iff_ne,ne_eq]at p2
 have p3:=lU;try simp only[beq_eq_false_iff_ne,ne_eq]at p3
 have p4:=pI;try simp only[beq_eq_false_iff_ne,ne_eq]at p4
 refine akm S Tryz.results193 ?_;exact⟨dX (by unfold named; (repeat' split)<;>omega),rfl⟩
theorem fits_any(s:eG)(w:World) :
  Calls Tryz.prog 194 #[.agg #[.i s.verb,.i s.a.x,.i s.a.y,.i s.b.x,.i s.b.y,.i s.c.x,.i s.c.y]] w fun e w'=>e = .returned (.bool s.fits)∧Ext w w':=by
 skip;refine akk Tryz.func194 Tryz.ntmps194 fun ac S=>akg fun _ aP=>akh S 1 s.cells fun ac u b2 E3 hb4 S=>adr S 1 [] [(2,.bool false)] fun S=>akf<|aP _ _<|wp_seq_k fun _ dG=>akg fun _ jl=>adr S 6 [.mem 0 1,.mem 0 3,.mem 0 5] [(6,.agg #[.i s.a.x,.i s.a.y]),(8,.agg #[.i s.b.x,.i s.b.y]),(10,.agg #[.i s.c.x,.i s.c.y])] fun S=>akC S 11 3 [.i s.a.x,.i s.a.y,.i s.b.x,.i s.b.y,.i s.c.x,.i s.c.y] fun ac u b7 E8 hb9 S=>adr S 2 [] [(12,.i 3),(13,.i 0)] fun S=>akf<|jl _ _<|wp_block<|wp_loop_rounds 4 ?_;rw[rounds_succ];refine akg fun _ fD=>adr S 1 [] [(14,.bool true)] fun S=>akf<|fD _ _<|wp_seq_k fun _ dn=>akq S<|wp_skip<|dn _ _<|wp_seq_k fun _ bV=>wp_block<|akg fun _ gJ=>adr S 3 [.mem 0 0] [(15,.i 0),(17,.agg #[.i s.a.x,.i s.a.y])] fun S=>akh S 4 [.i 0,.i 0] fun ac u b14 QM hb16 S=>adr S 1 [] [(3,.i 0)] fun S=>akl S 0 (off:=0) (cs:=[.i s.a.x,.i s.a.y]) rfl fun u C17 S=>akf<|gJ _ _<|akg fun _ jm=>adr S 1 [.mem 0 0] [(18,.agg #[.i s.a.x,.i s.a.y])] fun S=>akn S 19 (lJ (s.a.x) (s.a.y) _) fun ac u RH S=>aku S 13 [.mem 2 0,.mem 0 0,.cmp .neq 60 (.tmp 28) (.tmp 29) (.agg #[.i s.a.x,.i s.a.y]) (.agg #[.i 0,.i 0]) (.bool (!((s.a.x==0)&&(s.a.y==0))))] [(_,_,(!(!(kU.valid ⟨s.a.x,s.a.y⟩))),.i (named s.verb))] [(32,.bool ((!(kU.valid ⟨s.a.x,s.a.y⟩))||((decide ((named s.verb)≤0))&&(!((s.a.x==0)&&(s.a.y==0))))))] ⟨fun u hC g=>akw (yT (s.verb) _),trivial⟩ (hk:=⟨aky (fun _=>XO ..) (by kernel_rfl),trivial⟩) fun ac u Ez S=>akf (jm _ _ ?_);refine aki S (fun hc21=>?_) (fun hc21=>?_)
 ·refine akg fun _ jv=>adr S 1 [] [(2,.bool false)] fun S=>akf<|jv _ _<|Vp.rt ?_;have g0:lg s.verb 0 s.a=false:=by
   have hh:=hc21;show(kU.valid ⟨s.a.x,s.a.y⟩ && !(decide (named s.verb≤0) && !((s.a.x==0)&&(s.a.y==0))))=_;revert hh;cases kU.valid ⟨s.a.x,s.a.y⟩<;>cases decide (named s.verb≤0)<;>cases ((s.a.x==0)&&(s.a.y==0))<;>simp
  refine akm S Tryz.results194 ?_;exact⟨by rw[show s.fits=false from by simp[eG.fits,g0]],S.E⟩
 refine wp_skip<|bV _ _<|Vp.region<|adr S 2 [] [(13,.i 1)] fun S=>akf ?_;show Code.rounds _ _ _ 3 _ _;rw[rounds_succ];refine akg fun _ jU=>adr S 1 [] [(14,.bool true)] fun S=>akf<|jU _ _<|wp_seq_k fun _ jB=>akq S<|wp_skip<|jB _ _<|wp_seq_k fun _ nZ=>wp_block<|akg fun _ kN=>adr S 3 [.mem 1 2] [(15,.i 1),(17,.agg #[.i s.b.x,.i s.b.y])] fun S=>akh S 4 [.i 0,.i 0] fun ac u b27 Y5 I5 S=>adr S 1 [] [(3,.i 1)] fun S=>akl S 0 (off:=0) (cs:=[.i s.b.x,.i s.b.y]) rfl fun u C30 S=>akf<|kN _ _<|akg fun _ qJ=>adr S 1 [.mem 0 0] [(18,.agg #[.i s.b.x,.i s.b.y])] fun S=>akn S 19 (lJ (s.b.x) (s.b.y) _) fun ac u E32 S=>aku S 13 [.mem 3 0,.mem 0 0,.cmp .neq 60 (.tmp 28) (.tmp 29) (.agg #[.i s.b.x,.i s.b.y]) (.agg #[.i 0,.i 0]) (.bool (!((s.b.x==0)&&(s.b.y==0))))] [(_,_,(!(!(kU.valid ⟨s.b.x,s.b.y⟩))),.i (named s.verb))] [(32,.bool ((!(kU.valid ⟨s.b.x,s.b.y⟩))||((decide ((named s.verb)≤1))&&(!((s.b.x==0)&&(s.b.y==0))))))] ⟨fun u hC g=>akw (yT (s.verb) _),trivial⟩ (hk:=⟨aky (fun _=>XO ..) (by kernel_rfl),trivial⟩) fun ac u E33 S=>akf (qJ _ _ ?_);refine aki S (fun hc34=>?_) (fun hc34=>?_)
 ·refine akg fun _ oh=>adr S 1 [] [(2,.bool false)] fun S=>akf<|oh _ _<|Vp.rt ?_;have g0:lg s.verb 0 s.a=true:=by
   have hh:=hc21;show(kU.valid ⟨s.a.x,s.a.y⟩ && !(decide (named s.verb≤0) && !((s.a.x==0)&&(s.a.y==0))))=_;revert hh;cases kU.valid ⟨s.a.x,s.a.y⟩<;>cases decide (named s.verb≤0)<;>cases ((s.a.x==0)&&(s.a.y==0))<;>simp
  have g1:lg s.verb 1 s.b=false:=by
   have hh:=hc34;show(kU.valid ⟨s.b.x,s.b.y⟩ && !(decide (named s.verb≤1) && !((s.b.x==0)&&(s.b.y==0))))=_;revert hh;cases kU.valid ⟨s.b.x,s.b.y⟩<;>cases decide (named s.verb≤1)<;>cases ((s.b.x==0)&&(s.b.y==0))<;>simp
  refine akm S Tryz.results194 ?_;exact⟨by rw[show s.fits=false from by simp[eG.fits,g0,g1]],S.E⟩
 refine wp_skip<|nZ _ _<|Vp.region<|adr S 2 [] [(13,.i 2)] fun S=>akf ?_;show Code.rounds _ _ _ 2 _ _;rw[rounds_succ];refine akg fun _ lG=>adr S 1 [] [(14,.bool true)] fun S=>akf<|lG _ _<|wp_seq_k fun _ oM=>akq S<|wp_skip<|oM _ _<|wp_seq_k fun _ jC=>wp_block<|akg fun _ xg=>adr S 3 [.mem 2 4] [(15,.i 2),(17,.agg #[.i s.c.x,.i s.c.y])] fun S=>akh S 4 [.i 0,.i 0] fun ac u b40 E41 aax S=>adr S 1 [] [(3,.i 2)] fun S=>akl S 0 (off:=0) (cs:=[.i s.c.x,.i s.c.y]) rfl fun u YX S=>akf<|xg _ _<|akg fun _ uw=>adr S 1 [.mem 0 0] [(18,.agg #[.i s.c.x,.i s.c.y])] fun S=>akn S 19 (lJ (s.c.x) (s.c.y) _) fun ac u E45 S=>aku S 13 [.mem 4 0,.mem 0 0,.cmp .neq 60 (.tmp 28) (.tmp 29) (.agg #[.i s.c.x,.i s.c.y]) (.agg #[.i 0,.i 0]) (.bool (!((s.c.x==0)&&(s.c.y==0))))] [(_,_,(!(!(kU.valid ⟨s.c.x,s.c.y⟩))),.i (named s.verb))] [(32,.bool ((!(kU.valid ⟨s.c.x,s.c.y⟩))||((decide ((named s.verb)≤2))&&(!((s.c.x==0)&&(s.c.y==0))))))] ⟨fun u hC g=>akw (yT (s.verb) _),trivial⟩ (hk:=⟨aky (fun _=>XO ..) (by kernel_rfl),trivial⟩) fun ac u WQ S=>akf (uw _ _ ?_);refine aki S (fun hc47=>?_) (fun hc47=>?_)
 ·refine akg fun _ uU=>adr S 1 [] [(2,.bool false)] fun S=>akf<|uU _ _<|Vp.rt ?_;have g0:lg s.verb 0 s.a=true:=by
   have hh:=hc21;show(kU.valid ⟨s.a.x,s.a.y⟩ && !(decide (named s.verb≤0) && !((s.a.x==0)&&(s.a.y==0))))=_;revert hh;cases kU.valid ⟨s.a.x,s.a.y⟩<;>cases decide (named s.verb≤0)<;>cases ((s.a.x==0)&&(s.a.y==0))<;>simp
  have g1:lg s.verb 1 s.b=true:=by
   have hh:=hc34;show(kU.valid ⟨s.b.x,s.b.y⟩ && !(decide (named s.verb≤1) && !((s.b.x==0)&&(s.b.y==0))))=_;revert hh;cases kU.valid ⟨s.b.x,s.b.y⟩<;>cases decide (named s.verb≤1)<;>cases ((s.b.x==0)&&(s.b.y==0))<;>simp
  have g2:lg s.verb 2 s.c=false:=by
   have hh:=hc47;show(kU.valid ⟨s.c.x,s.c.y⟩ && !(decide (named s.verb≤2) && !((s.c.x==0)&&(s.c.y==0))))=_;revert hh;cases kU.valid ⟨s.c.x,s.c.y⟩<;>cases decide (named s.verb≤2)<;>cases ((s.c.x==0)&&(s.c.y==0))<;>simp
  refine akm S Tryz.results194 ?_;exact⟨by rw[show s.fits=false from by simp[eG.fits,g0,g1,g2]],S.E⟩
 refine wp_skip<|jC _ _<|Vp.region<|adr S 2 [] [(13,.i 3)] fun S=>akf ?_;show Code.rounds _ _ _ 1 _ _;rw[rounds_succ];refine akg fun _ uV=>adr S 1 [] [(14,.bool false)] fun S=>akf<|uV _ _<|wp_seq_k fun _ zk=>akz S<|wp_exit<|dG _ _<|akg fun _ CQ=>adr S 1 [] [(2,.bool true)] fun S=>akf<|CQ _ _<|Vp.rt ?_;have g0:lg s.verb 0 s.a=true:=by
  have hh:=hc21;show(kU.valid ⟨s.a.x,s.a.y⟩ && !(decide (named s.verb≤0) && !((s.a.x==0)&&(s.a.y==0))))=_;revert hh;cases kU.valid ⟨s.a.x,s.a.y⟩<;>cases decide (named s.verb≤0)<;>cases ((s.a.x==0)&&(s.a.y==0))<;>simp
 have g1:lg s.verb 1 s.b=true:=by
  have hh:=hc34;show(kU.valid ⟨s.b.x,s.b.y⟩ && !(decide (named s.verb≤1) && !((s.b.x==0)&&(s.b.y==0))))=_;revert hh;cases kU.valid ⟨s.b.x,s.b.y⟩<;>cases decide (named s.verb≤1)<;>cases ((s.b.x==0)&&(s.b.y==0))<;>simp
 have g2:lg s.verb 2 s.c=true:=by
  have hh:=hc47;show(kU.valid ⟨s.c.x,s.c.y⟩ && !(decide (named s.verb≤2) && !((s.c.x==0)&&(s.c.y==0))))=_;revert hh;cases kU.valid ⟨s.c.x,s.c.y⟩<;>cases decide (named s.verb≤2)<;>cases ((s.c.x==0)&&(s.c.y==0))<;>simp
 refine akm S Tryz.results194 ?_;exact⟨by rw[show s.fits=true from by simp[eG.fits,g0,g1,g2]],S.E⟩
open Go.RowKit
variable{α:Type}
theorem Ph{x:eG}{last:Int}(h:decide (named x.verb<0)=true):x.err last=2:=if_pos (of_decide_eq_true h)
theorem JK{x:eG}{last:Int}(h:decide (named x.verb<0)=false)(h1:(!x.stands last)=true):x.err last=10:=by
 unfold eG.err; rw[if_neg (of_decide_eq_false h),if_pos (by simpa using h1)]
theorem BH{x:eG}{last:Int}(h:decide (named x.verb<0)=false)(h1:(!x.stands last)=false)(h2:(!x.fits)=true):x.err last=6:=by
 unfold eG.err; rw[if_neg (of_decide_eq_false h),if_neg (by simpa using h1),if_pos (by simpa using h2)]
theorem Pj{x:eG}{last:Int}(h:decide (named x.verb<0)=false)(h1:(!x.stands last)=false)(h2:(!x.fits)=false):x.err last=0:=by
 unfold eG.err; rw[if_neg (of_decide_eq_false h),if_neg (by simpa using h1),if_neg (by simpa using h2)]
theorem Jc{w:World}{v:Value}{l:List eG}(h:og w v l) :
  Calls Tryz.prog 154 #[v] w fun e w'=>e = .returned (.tuple #[.i (dK l).1,.i (dK l).2])∧Ext w w':=by
 obtain⟨a,cap,rfl⟩:=h.1.shape;have hmax:l.length≤9223372036854775807:=h.1.len;refine akk Tryz.func154 Tryz.ntmps154 fun ac S=>akg fun _ aP=>adr S 2 [] [(2,.i 0),(3,.i 0)] fun S=>akf<|aP _ _<|wp_seq_k fun _ fE=>akg fun _ iM=>adr S 3 [] [(10,.bool (256<(l.length:Int)))] fun S=>akf (iM _ _ ?_);refine aki S (fun hc4=>?_) (fun hc4=>?_)
 ·refine akg fun _ dG=>adr S 2 [] [(2,.i 5),(3,.i 256)] fun S=>akf<|dG _ _<|Vp.rt ?_;have p0:256<(l.length:Int):=of_decide_eq_true hc4;refine Sx.rD S Tryz.results154 ?_;have e:dK l=(5,256):=by unfold dK; rw[if_pos p0]
  exact⟨by rw[e],S.E⟩
 refine wp_skip<|fE _ _<|akg fun _ jl=>adr S 1 [] [(4,.i 5)] fun S=>akf<|jl _ _<|wp_seq_k fun _ jT=>akg fun _ dM=>adr S 3 [] [(11,.slice a l.length cap),(12,.i l.length),(13,.i 0)] fun S=>akf<|dM _ _<|wp_block ?_;refine Vp.loop (ι:=Nat×Int) (fun p a' w'=>p.1≤l.length∧(mD 5 0 l=mD p.2 (p.1:Int) (l.drop p.1))∧Sx.St w a' w' 52 [(0,.slice a l.length cap),(2,.i 0),(3,.i 0),(4,.i p.2),(11,.slice a l.length cap),(12,.i l.length),(13,.i p.1)] [] []) (fun p=>l.length-p.1) (0,5) ⟨Nat.zero_le _,rfl,S.sn⟩ ?_;rintro⟨k,last⟩ ac u hI;try dsimp only at hI
 obtain⟨hk,hR,S⟩:=hI;refine akg fun _ gX=>adr S 1 [] [(14,.bool ((k:Int)<(l.length:Int)))] fun S=>akf<|gX _ _<|wp_seq_k (fun _ fD=>?_);refine aki S (fun fA=>?_) (fun fA=>?_)
 ·refine wp_skip<|fD _ _<|wp_seq_k fun _ bV=>wp_block<|akg (fun _ gJ=>?_);have mO:k<l.length:=by have:=of_decide_eq_true fA; omega
  obtain⟨b14,o15,rfl,x20,uF,CY,FK⟩:=Vp.gY h.1 (fun _=>rfl) (k) mO;have S:=S.view0 CY FK;refine adr S 3 [.idx k l.length,.mem 0 0] [(15,.i k),(17,.agg x20.cells.toArray)] (hk:=⟨mO,trivial⟩) fun S=>akh S 6 [.i 0,.i 0,.i 0,.i 0,.i 0,.i 0,.i 0] fun ac u b22 Jt Sz S=>adr S 1 [] [(5,.i k)] fun S=>akl S 0 (off:=0) (cs:=x20.cells) rfl fun u C25 S=>akf<|gJ _ _<|akg fun _ kN=>adr S 17 [.mem 0 0,.mem 0 0] [(7,.bool (((x20.verb)==1)||(((last) != 5)&&(((x20.verb) != 5)||((last) != 1)))))] fun S=>akf<|kN _ _<|wp_seq_k fun _ jK=>wp_block<|akg fun _ jh=>adr S 2 [.mem 0 0] [(36,.i x20.verb)] fun S=>akD S 37 (yT (x20.verb) _) fun ac S=>adr S 2 [] [(34,.bool ((named x20.verb)<0))] fun S=>akf (jh _ _ ?_);refine aki S (fun hc29=>?_) (fun hc29=>?_)
  ·refine akg fun _ jM=>adr S 3 [] [(2,.i 2),(3,.i k)] fun S=>akf<|jM _ _<|Vp.rt ?_;have herr:x20.err last=2:=Ph hc29;have p0:¬256<(l.length:Int):=of_decide_eq_false hc4;refine Sx.rD S Tryz.results154 ?_;have e:dK l=(2,(k:Int)):=by
    unfold dK;rw[if_neg (by omega),hR,List.drop_eq_getElem_cons mO,uF,mD,herr];rfl
   exact⟨by rw[e],S.E⟩
  refine akg fun _ qJ=>adr S 3 [] [(40,.bool (!(((x20.verb)==1)||(((last) != 5)&&(((x20.verb) != 5)||((last) != 1))))))] fun S=>akf (qJ _ _ ?_);refine aki S (fun hc32=>?_) (fun hc32=>?_)
  ·refine akg fun _ oV=>adr S 3 [] [(2,.i 10),(3,.i k)] fun S=>akf<|oV _ _<|Vp.rt ?_;have herr:x20.err last=10:=JK hc29 hc32;have p0:¬256<(l.length:Int):=of_decide_eq_false hc4;refine Sx.rD S Tryz.results154 ?_;have e:dK l=(10,(k:Int)):=by
    unfold dK;rw[if_neg (by omega),hR,List.drop_eq_getElem_cons mO,uF,mD,herr];rfl
   exact⟨by rw[e],S.E⟩
  refine akg fun _ uq=>adr S 1 [.mem 0 0] [(45,.agg x20.cells.toArray)] fun S=>akn S 46 (fits_any x20 _) fun ac u Jr S=>adr S 2 [] [(44,.bool (!x20.fits))] fun S=>akf (uq _ _ ?_);refine aki S (fun zY=>?_) (fun zY=>?_)
  ·refine akg fun _ oM=>adr S 3 [] [(2,.i 6),(3,.i k)] fun S=>akf<|oM _ _<|Vp.rt ?_;have herr:x20.err last=6:=BH hc29 hc32 zY;have p0:¬256<(l.length:Int):=of_decide_eq_false hc4;refine Sx.rD S Tryz.results154 ?_;have e:dK l=(6,(k:Int)):=by
    unfold dK;rw[if_neg (by omega),hR,List.drop_eq_getElem_cons mO,uF,mD,herr];rfl
   exact⟨by rw[e],S.E⟩
  refine wp_skip<|jK _ _<|Vp.region<|adr S 3 [.mem 0 0] [(4,.i x20.verb)] fun S=>akf<|bV _ _<|Vp.region<|adr S 2 [.re 51 (.i (IntKind.i64.wrap ((k:Int)+1))) (.i (k+1:Nat))] [(13,.i (k+1:Nat))] (hk:=⟨aks (by omega),trivial⟩) fun S=>akf ?_;show ∃i',_∧_;have herr:x20.err last=0:=Pj hc29 hc32 zY;rw[List.drop_eq_getElem_cons mO,uF,mD,if_pos herr]at hR;exact⟨((k+1),x20.verb),⟨by omega,hR,(S.sub [(0,.slice (some ⟨b14,o15,none⟩) l.length cap),(2,.i 0),(3,.i 0),(4,.i x20.verb),(11,.slice (some ⟨b14,o15,none⟩) l.length cap),(12,.i l.length),(13,.i (k+1:Nat))]).pX.oq 1⟩,by show _-_<_-_; omega⟩
 refine wp_exit<|jT _ _<|akg fun _ jC=>adr S 2 [] [(2,.i 0),(3,.i 0)] fun S=>akf<|jC _ _<|Vp.rt ?_;have p0:¬256<(l.length:Int):=of_decide_eq_false hc4;have p1:¬(k:Int)<(l.length:Int):=of_decide_eq_false fA;refine Sx.rD S Tryz.results154 ?_;have e:dK l=(0,0):=by
  unfold dK;rw[if_neg (by omega),hR,List.drop_eq_nil_of_le (by omega)];rfl
 exact⟨by rw[e],S.E⟩
theorem zD{w:World}{v:Value}{l:List eG}(h:og w v l) :
  Calls Tryz.prog 117 #[v] w fun e w'=>e = .returned (.bool (jf l))∧Ext w w':=by
 skip;refine akk Tryz.func117 Tryz.ntmps117 fun ac S=>akg fun _ aP=>adr S 1 [] [(2,.bool false)] fun S=>akf<|aP _ _<|akg fun _ fE=>adr S 1 [] [(6,v)] fun S=>akn S 7 (Jc (h.below S.E)) fun ac u E3 S=>adr S 5 [] [(3,.i ((dK l).1))] fun S=>akf<|fE _ _<|akg fun _ lX=>adr S 3 [] [(2,.bool (((dK l).1)==0))] fun S=>akf<|lX _ _<|akj S Tryz.results117 ?_;exact⟨rfl,S.E⟩
end Go.Proofs.YtfmkkemfhjkajaaGreatDoor
