/- Walks of packages intmath, vec and path: what the checks of a path answer. -/
import Derived.Test.YtfmkkemfhjkajaaGreatDoorPk13
import Derived.Test.YtfmkkemfhjkajaaGreatDoorSy
import Derived.LoopN
set_option linter.unusedVariables false
set_option maxHeartbeats 1600000
set_option maxRecDepth 100000
namespace Go.Proofs.YtfmkkemfhjkajaaGreatDoor
open Go.RowKit
variable{α:Type}
def gq(n lo hi:Int):Int:=if n<lo then lo else if hi<n then hi else n
theorem NP(x y:Int):((gq x (-1048576) 1048576==x)&&(gq y (-1048576) 1048576==y))=kE.valid ⟨x,y⟩:=by
 have h:∀z:Int,(gq z (-1048576) 1048576==z)=cok z:=by
  intro z
  rw[Bool.eq_iff_iff]
  unfold gq cok
  simp only[beq_iff_eq,Bool.and_eq_true,decide_eq_true_eq]
  (repeat' split)<;>omega
 rw[h,h]; rfl
theorem V5(n lo hi:Int)(w:World) :
  Calls Tryz.prog 275 #[.int .i64 n,.int .i64 lo,.int .i64 hi] w fun e w'=>e = .returned (.int .i64 (gq n lo hi))∧w=w':=by
 skip
 refine aiK Tryz.func275 Tryz.ntmps275 fun ac S=>aiG fun _ aU=>adr S 1 [] [(6,.int .i64 0)] fun ac S=>aiF<|aU _ _<|wp_seq_k fun _ fE=>wp_block<|aiG fun _ gW=>adr S 4 [] [(7,.bool (decide (n<lo)))] fun ac S=>aiF (gW _ _ ?_)
 refine aiI S (fun hc4=>?_) (fun hc4=>?_)
 ·refine aiG fun _ bV=>adr S 2 [] [(6,.int .i64 lo)] fun ac S=>aiF<|bV _ _<|Vp.rt ?_
  have p0:=hc4
  try simp only[decide_eq_true_eq]at p0
  refine aiH S Tryz.results275 ?_
  exact⟨dQ (by unfold gq; (repeat' split)<;>omega),rfl⟩
 ·refine aiG fun _ iK=>adr S 4 [] [(12,.bool (decide (hi<n)))] fun ac S=>aiF (iK _ _ ?_)
  refine aiI S (fun kV=>?_) (fun kV=>?_)
  ·refine aiG fun _ dP=>adr S 2 [] [(6,.int .i64 hi)] fun ac S=>aiF<|dP _ _<|Vp.rt ?_
   have p0:=hc4
   try simp only[decide_eq_false_iff_not]at p0
   have p1:=kV
   try simp only[decide_eq_true_eq]at p1
   refine aiH S Tryz.results275 ?_
   exact⟨dQ (by unfold gq; (repeat' split)<;>omega),rfl⟩
  ·refine wp_skip<|fE _ _<|aiG fun _ gB=>adr S 2 [] [(6,.int .i64 n)] fun ac S=>aiF<|gB _ _<|Vp.rt ?_
   have p0:=hc4
   try simp only[decide_eq_false_iff_not]at p0
   have p1:=kV
   try simp only[decide_eq_false_iff_not]at p1
   refine aiH S Tryz.results275 ?_
   exact⟨dQ (by unfold gq; (repeat' split)<;>omega),rfl⟩
theorem NQ(n:Int)(w:World) :
  Calls Tryz.prog 269 #[.int .i64 n] w fun e w'=>e = .returned (.int .i64 (gq n (-1048576) 1048576))∧w=w':=by
 skip
 refine aiK Tryz.func269 Tryz.ntmps269 fun ac S=>aiG fun _ aU=>adr S 1 [] [(2,.int .i64 0)] fun ac S=>aiF<|aU _ _<|aiG fun _ fE=>adr S 1 [] [(3,.int .i64 n)] fun ac S=>ai1 S 4 (V5 (n) (-1048576) (1048576) _) fun ac S=>adr S 1 [] [(2,.int .i64 (gq n (-1048576) (1048576)))] fun ac S=>aiF<|fE _ _<|Vp.rt ?_
 refine aiH S Tryz.results269 ?_
 exact⟨rfl,rfl⟩
theorem Y7(x y:Int)(w:World) :
  Calls Tryz.prog 250 #[.agg #[.int .i64 x,.int .i64 y]] w fun e w'=>e = .returned (.agg #[.int .i64 (gq x (-1048576) 1048576),.int .i64 (gq y (-1048576) 1048576)])∧Ext w w':=by
 skip
 refine aiK Tryz.func250 Tryz.ntmps250 fun ac S=>aiG fun _ aU=>aiJ S 1 [.int .i64 x,.int .i64 y] fun ac u b2 E3 hb4 S=>aiJ S 2 [.int .i64 0,.int .i64 0] fun ac u b5 E6 hb7 S=>aiF<|aU _ _<|aiG fun _ dP=>adr S 1 [] [(3,.func (.func 269) #[] #[])] fun ac S=>aiF<|dP _ _<|wp_seq_k fun _ gB=>aiO S 9 [.mem 1 0,.mem 1 1] [(_,_,true,.int .i64 (gq x (-1048576) 1048576)),(_,_,true,.int .i64 (gq y (-1048576) 1048576))] [(12,.agg #[.int .i64 (gq x (-1048576) 1048576),.int .i64 (gq y (-1048576) 1048576)])] ⟨fun u hC g=>aiU (NQ x _),fun u hC g=>aiU (NQ y _),trivial⟩ fun ac u Bj S=>aiL S 0 (off:=0) (cs:=[.int .i64 (gq x (-1048576) 1048576),.int .i64 (gq y (-1048576) 1048576)]) rfl fun u C11 S=>aiF<|gB _ _<|Vp.rt ?_
 refine aiS S 0 Tryz.results250 rfl (v := .agg #[.int .i64 (gq x (-1048576) 1048576),.int .i64 (gq y (-1048576) 1048576)]) ?_
 exact⟨rfl,S.E⟩
theorem lq(x y:Int)(w:World) :
  Calls Tryz.prog 225 #[.agg #[.int .i64 x,.int .i64 y]] w fun e w'=>e = .returned (.bool (kE.valid ⟨x,y⟩))∧Ext w w':=by
 skip
 refine aiK Tryz.func225 Tryz.ntmps225 fun ac S=>aiG fun _ aU=>aiJ S 1 [.int .i64 x,.int .i64 y] fun ac u b2 E3 hb4 S=>adr S 1 [] [(2,.bool false)] fun ac S=>aiF<|aU _ _<|wp_seq_k fun _ bV=>aiO S 4 [.mem 0 0,.mem 0 0,.cmp .eql 60 (.tmp 4) (.tmp 5) (.agg #[.int .i64 (gq x (-1048576) 1048576),.int .i64 (gq y (-1048576) 1048576)]) (.agg #[.int .i64 x,.int .i64 y]) (.bool (((gq x (-1048576) 1048576)==x)&&((gq y (-1048576) 1048576)==y)))] [(_,_,true,.agg #[.int .i64 (gq x (-1048576) 1048576),.int .i64 (gq y (-1048576) 1048576)])] [(6,.bool (((gq x (-1048576) 1048576)==x)&&((gq y (-1048576) 1048576)==y)))] ⟨fun u hC g=>Y7 x y _,trivial⟩ (hk:=⟨aiX (fun _=>eqPt ..) (by kernel_rfl),trivial⟩) fun ac u E6 S=>adr S 1 [] [(2,.bool (((gq x (-1048576) 1048576)==x)&&((gq y (-1048576) 1048576)==y)))] fun ac S=>aiF<|bV _ _<|Vp.rt ?_
 refine aiH S Tryz.results225 ?_
 exact⟨by rw[←NP],S.E⟩
theorem xX(v:Int)(w:World) :
  Calls Tryz.prog 193 #[.int .i64 v] w fun e w'=>e = .returned (.int .i64 (named v))∧w=w':=by
 skip
 refine aiK Tryz.func193 Tryz.ntmps193 fun ac S=>aiG fun _ aU=>adr S 1 [] [(2,.int .i64 0)] fun ac S=>aiF<|aU _ _<|aiG fun _ fE=>adr S 1 [] [(3,.int .i64 0)] fun ac S=>aiF<|fE _ _<|wp_seq_k fun _ gW=>aiG fun _ lG=>adr S 1 [] [(4,.int .i64 v)] fun ac S=>aiF<|lG _ _<|wp_block<|wp_seq_k fun _ bV=>wp_block<|wp_seq_k fun _ iK=>wp_block<|wp_seq_k fun _ kC=>wp_block<|wp_seq_k fun _ dP=>wp_block<|wp_seq_k fun _ gB=>wp_block<|wp_seq_k fun _ dV=>wp_seq_k fun _ dB=>aiG fun _ dw=>adr S 2 [] [(5,.bool ((v)==4))] fun ac S=>aiF (dw _ _ ?_)
 refine aiI S (fun hc13=>?_) (fun hc13=>?_)
 ·refine wp_exit<|gB _ _<|Vp.region<|adr S 3 [] [(3,.int .i64 1)] fun ac S=>aiF<|dP _ _<|Vp.region<|adr S 3 [] [(3,.int .i64 2)] fun ac S=>aiF<|kC _ _<|aiG fun _ fU=>adr S 3 [] [(3,.int .i64 3)] fun ac S=>aiF<|fU _ _<|wp_exit<|gW _ _<|aiG fun _ fH=>adr S 2 [] [(2,.int .i64 3)] fun ac S=>aiF<|fH _ _<|Vp.rt ?_
  have p0:=hc13
  try simp only[beq_iff_eq]at p0
  refine aiH S Tryz.results193 ?_
  exact⟨dQ (by unfold named; (repeat' split)<;>omega),rfl⟩
 ·refine wp_skip<|dB _ _<|wp_seq_k fun _ iR=>aiG fun _ ig=>adr S 2 [] [(7,.bool ((v)==3))] fun ac S=>aiF (ig _ _ ?_)
  refine aiI S (fun hc18=>?_) (fun hc18=>?_)
  ·refine wp_exit<|dP _ _<|Vp.region<|adr S 3 [] [(3,.int .i64 1)] fun ac S=>aiF<|kC _ _<|aiG fun _ jf=>adr S 3 [] [(3,.int .i64 2)] fun ac S=>aiF<|jf _ _<|wp_exit<|gW _ _<|aiG fun _ iU=>adr S 2 [] [(2,.int .i64 2)] fun ac S=>aiF<|iU _ _<|Vp.rt ?_
   have p0:=hc13
   try simp only[beq_eq_false_iff_ne,ne_eq]at p0
   have p1:=hc18
   try simp only[beq_iff_eq]at p1
   refine aiH S Tryz.results193 ?_
   exact⟨dQ (by unfold named; (repeat' split)<;>omega),rfl⟩
  ·refine wp_skip<|iR _ _<|wp_seq_k fun _ jo=>wp_seq_k fun _ jM=>aiG fun _ oJ=>adr S 2 [] [(9,.bool ((v)==1))] fun ac S=>aiF (oJ _ _ ?_)
   refine aiI S (fun hc24=>?_) (fun hc24=>?_)
   ·refine wp_skip<|jM _ _ ?_
    refine aiI S (fun hc25=>?_) (fun hc25=>?_)
    ·refine wp_exit<|kC _ _<|aiG fun _ kH=>adr S 3 [] [(3,.int .i64 1)] fun ac S=>aiF<|kH _ _<|wp_exit<|gW _ _<|aiG fun _ lJ=>adr S 2 [] [(2,.int .i64 1)] fun ac S=>aiF<|lJ _ _<|Vp.rt ?_
     have p0:=hc13
     try simp only[beq_eq_false_iff_ne,ne_eq]at p0
     have p1:=hc18
     try simp only[beq_eq_false_iff_ne,ne_eq]at p1
     have p2:=hc24
     try simp only[beq_iff_eq]at p2
     have p3:=hc25
     try simp only[beq_iff_eq]at p3
     refine aiH S Tryz.results193 ?_
     exact⟨dQ (by unfold named; (repeat' split)<;>omega),rfl⟩
    ·refine wp_skip<|jo _ _<|aiG fun _ lK=>adr S 2 [] [(12,.bool ((v)==5))] fun ac S=>aiF (lK _ _ ?_)
     refine aiI S (fun hc29=>?_) (fun hc29=>?_)
     ·refine wp_exit<|iK _ _<|wp_exit<|gW _ _<|aiG fun _ nI=>adr S 2 [] [(2,.int .i64 0)] fun ac S=>aiF<|nI _ _<|Vp.rt ?_
      have p0:=hc13
      try simp only[beq_eq_false_iff_ne,ne_eq]at p0
      have p1:=hc18
      try simp only[beq_eq_false_iff_ne,ne_eq]at p1
      have p2:=hc24
      try simp only[beq_iff_eq]at p2
      have p3:=hc25
      try simp only[beq_eq_false_iff_ne,ne_eq]at p3
      have p4:=hc29
      try simp only[beq_iff_eq]at p4
      refine aiH S Tryz.results193 ?_
      exact⟨dQ (by unfold named; (repeat' split)<;>omega),rfl⟩
     ·refine wp_skip<|dV _ _<|wp_exit<|bV _ _<|wp_seq_k fun _ qg=>aiG fun _ kM=>adr S 1 [] [(2,.int .i64 (-1))] fun ac S=>aiF<|kM _ _<|Vp.rt ?_
      have p0:=hc13
      try simp only[beq_eq_false_iff_ne,ne_eq]at p0
      have p1:=hc18
      try simp only[beq_eq_false_iff_ne,ne_eq]at p1
      have p2:=hc24
      try simp only[beq_iff_eq]at p2
      have p3:=hc25
      try simp only[beq_eq_false_iff_ne,ne_eq]at p3
      have p4:=hc29
      try simp only[beq_eq_false_iff_ne,ne_eq]at p4
      refine aiH S Tryz.results193 ?_
      exact⟨dQ (by unfold named; (repeat' split)<;>omega),rfl⟩
   ·refine Vp.region<|adr S 2 [] [(9,.bool ((v)==2))] fun ac S=>aiF (jM _ _ ?_)
    refine aiI S (fun nU=>?_) (fun nU=>?_)
    ·refine wp_exit<|kC _ _<|aiG fun _ uQ=>adr S 3 [] [(3,.int .i64 1)] fun ac S=>aiF<|uQ _ _<|wp_exit<|gW _ _<|aiG fun _ oK=>adr S 2 [] [(2,.int .i64 1)] fun ac S=>aiF<|oK _ _<|Vp.rt ?_
     have p0:=hc13
     try simp only[beq_eq_false_iff_ne,ne_eq]at p0
     have p1:=hc18
     try simp only[beq_eq_false_iff_ne,ne_eq]at p1
     have p2:=hc24
     try simp only[beq_eq_false_iff_ne,ne_eq]at p2
     have p3:=nU
     try simp only[beq_iff_eq]at p3
     refine aiH S Tryz.results193 ?_
     exact⟨dQ (by unfold named; (repeat' split)<;>omega),rfl⟩
    ·refine wp_skip<|jo _ _<|aiG fun _ nJ=>adr S 2 [] [(12,.bool ((v)==5))] fun ac S=>aiF (nJ _ _ ?_)
     refine aiI S (fun l9=>?_) (fun l9=>?_)
     ·refine wp_exit<|iK _ _<|wp_exit<|gW _ _<|aiG fun _ jG=>adr S 2 [] [(2,.int .i64 0)] fun ac S=>aiF<|jG _ _<|Vp.rt ?_
      have p0:=hc13
      try simp only[beq_eq_false_iff_ne,ne_eq]at p0
      have p1:=hc18
      try simp only[beq_eq_false_iff_ne,ne_eq]at p1
      have p2:=hc24
      try simp only[beq_eq_false_iff_ne,ne_eq]at p2
      have p3:=nU
      try simp only[beq_eq_false_iff_ne,ne_eq]at p3
      have p4:=l9
      try simp only[beq_iff_eq]at p4
      refine aiH S Tryz.results193 ?_
      exact⟨dQ (by unfold named; (repeat' split)<;>omega),rfl⟩
     ·refine wp_skip<|dV _ _<|wp_exit<|bV _ _<|wp_seq_k fun _ ug=>aiG fun _ yY=>adr S 1 [] [(2,.int .i64 (-1))] fun ac S=>aiF<|yY _ _<|Vp.rt ?_
      have p0:=hc13
      try simp only[beq_eq_false_iff_ne,ne_eq]at p0
      have p1:=hc18
      try simp only[beq_eq_false_iff_ne,ne_eq]at p1
      have p2:=hc24
      try simp only[beq_eq_false_iff_ne,ne_eq]at p2
      have p3:=nU
      try simp only[beq_eq_false_iff_ne,ne_eq]at p3
      have p4:=l9
      try simp only[beq_eq_false_iff_ne,ne_eq]at p4
      refine aiH S Tryz.results193 ?_
      exact⟨dQ (by unfold named; (repeat' split)<;>omega),rfl⟩
theorem fits_any(s:dW)(w:World) :
  Calls Tryz.prog 194 #[.agg #[.int .i64 s.verb,.int .i64 s.a.x,.int .i64 s.a.y,.int .i64 s.b.x,.int .i64 s.b.y,.int .i64 s.c.x,.int .i64 s.c.y]] w fun e w'=>e = .returned (.bool s.fits)∧Ext w w':=by
 skip
 refine aiK Tryz.func194 Tryz.ntmps194 fun ac S=>aiG fun _ aU=>aiJ S 1 s.cells fun ac u b2 E3 hb4 S=>adr S 1 [] [(2,.bool false)] fun ac S=>aiF<|aU _ _<|wp_seq_k fun _ bV=>aiG fun _ iK=>adr S 6 [.mem 0 1,.mem 0 3,.mem 0 5] [(6,.agg #[.int .i64 s.a.x,.int .i64 s.a.y]),(8,.agg #[.int .i64 s.b.x,.int .i64 s.b.y]),(10,.agg #[.int .i64 s.c.x,.int .i64 s.c.y])] fun ac S=>Sx.news S 11 3 [.int .i64 s.a.x,.int .i64 s.a.y,.int .i64 s.b.x,.int .i64 s.b.y,.int .i64 s.c.x,.int .i64 s.c.y] fun ac u b7 E8 IE S=>adr S 2 [] [(12,.int .i64 3),(13,.int .i64 0)] fun ac S=>aiF<|iK _ _<|wp_block<|wp_loop_rounds 4 ?_
 rw[rounds_succ]
 refine aiG fun _ dV=>adr S 1 [] [(14,.bool true)] fun ac S=>aiF<|dV _ _<|wp_seq_k fun _ dB=>aiN S<|wp_skip<|dB _ _<|wp_seq_k fun _ dw=>wp_block<|aiG fun _ fZ=>adr S 3 [.mem 0 0] [(15,.int .i64 0),(17,.agg #[.int .i64 s.a.x,.int .i64 s.a.y])] fun ac S=>aiJ S 4 [.int .i64 0,.int .i64 0] fun ac u b14 Vb hb16 S=>adr S 1 [] [(3,.int .i64 0)] fun ac S=>aiL S 0 (off:=0) (cs:=[.int .i64 s.a.x,.int .i64 s.a.y]) rfl fun u C17 S=>aiF<|fZ _ _<|aiG fun _ je=>adr S 1 [.mem 0 0] [(18,.agg #[.int .i64 s.a.x,.int .i64 s.a.y])] fun ac S=>aiM S 19 (lq (s.a.x) (s.a.y) _) fun ac u Xm S=>aiT S 13 [.mem 2 0,.mem 0 0,.cmp .neq 60 (.tmp 28) (.tmp 29) (.agg #[.int .i64 s.a.x,.int .i64 s.a.y]) (.agg #[.int .i64 0,.int .i64 0]) (.bool (!((s.a.x==0)&&(s.a.y==0))))] [(_,_,(!(!(kE.valid ⟨s.a.x,s.a.y⟩))),.int .i64 (named s.verb))] [(32,.bool ((!(kE.valid ⟨s.a.x,s.a.y⟩))||((decide ((named s.verb)≤0))&&(!((s.a.x==0)&&(s.a.y==0))))))] ⟨fun u hC g=>aiU (xX (s.verb) _),trivial⟩ (hk:=⟨aiX (fun _=>V6 ..) (by kernel_rfl),trivial⟩) fun ac u Iz S=>aiF (je _ _ ?_)
 refine aiI S (fun hc21=>?_) (fun hc21=>?_)
 ·refine aiG fun _ jM=>adr S 1 [] [(2,.bool false)] fun ac S=>aiF<|jM _ _<|Vp.rt ?_
  have g0:kR s.verb 0 s.a=false:=by
   have hh:=hc21
   show(kE.valid ⟨s.a.x,s.a.y⟩ && !(decide (named s.verb≤0) && !((s.a.x==0)&&(s.a.y==0))))=_
   revert hh
   cases kE.valid ⟨s.a.x,s.a.y⟩<;>cases decide (named s.verb≤0)<;>cases ((s.a.x==0)&&(s.a.y==0))<;>simp
  refine aiH S Tryz.results194 ?_
  exact⟨by rw[show s.fits=false from by simp[dW.fits,g0]],S.E⟩
 ·refine wp_skip<|dw _ _<|Vp.region<|adr S 2 [] [(13,.int .i64 1)] fun ac S=>aiF ?_
  show Code.rounds _ _ _ 3 _ _
  rw[rounds_succ]
  refine aiG fun _ oJ=>adr S 1 [] [(14,.bool true)] fun ac S=>aiF<|oJ _ _<|wp_seq_k fun _ kK=>aiN S<|wp_skip<|kK _ _<|wp_seq_k fun _ wB=>wp_block<|aiG fun _ kH=>adr S 3 [.mem 1 2] [(15,.int .i64 1),(17,.agg #[.int .i64 s.b.x,.int .i64 s.b.y])] fun ac S=>aiJ S 4 [.int .i64 0,.int .i64 0] fun ac u b27 E28 Ac S=>adr S 1 [] [(3,.int .i64 1)] fun ac S=>aiL S 0 (off:=0) (cs:=[.int .i64 s.b.x,.int .i64 s.b.y]) rfl fun u C30 S=>aiF<|kH _ _<|aiG fun _ qg=>adr S 1 [.mem 0 0] [(18,.agg #[.int .i64 s.b.x,.int .i64 s.b.y])] fun ac S=>aiM S 19 (lq (s.b.x) (s.b.y) _) fun ac u E32 S=>aiT S 13 [.mem 3 0,.mem 0 0,.cmp .neq 60 (.tmp 28) (.tmp 29) (.agg #[.int .i64 s.b.x,.int .i64 s.b.y]) (.agg #[.int .i64 0,.int .i64 0]) (.bool (!((s.b.x==0)&&(s.b.y==0))))] [(_,_,(!(!(kE.valid ⟨s.b.x,s.b.y⟩))),.int .i64 (named s.verb))] [(32,.bool ((!(kE.valid ⟨s.b.x,s.b.y⟩))||((decide ((named s.verb)≤1))&&(!((s.b.x==0)&&(s.b.y==0))))))] ⟨fun u hC g=>aiU (xX (s.verb) _),trivial⟩ (hk:=⟨aiX (fun _=>V6 ..) (by kernel_rfl),trivial⟩) fun ac u E33 S=>aiF (qg _ _ ?_)
  refine aiI S (fun hc34=>?_) (fun hc34=>?_)
  ·refine aiG fun _ oK=>adr S 1 [] [(2,.bool false)] fun ac S=>aiF<|oK _ _<|Vp.rt ?_
   have g0:kR s.verb 0 s.a=true:=by
    have hh:=hc21
    show(kE.valid ⟨s.a.x,s.a.y⟩ && !(decide (named s.verb≤0) && !((s.a.x==0)&&(s.a.y==0))))=_
    revert hh
    cases kE.valid ⟨s.a.x,s.a.y⟩<;>cases decide (named s.verb≤0)<;>cases ((s.a.x==0)&&(s.a.y==0))<;>simp
   have g1:kR s.verb 1 s.b=false:=by
    have hh:=hc34
    show(kE.valid ⟨s.b.x,s.b.y⟩ && !(decide (named s.verb≤1) && !((s.b.x==0)&&(s.b.y==0))))=_
    revert hh
    cases kE.valid ⟨s.b.x,s.b.y⟩<;>cases decide (named s.verb≤1)<;>cases ((s.b.x==0)&&(s.b.y==0))<;>simp
   refine aiH S Tryz.results194 ?_
   exact⟨by rw[show s.fits=false from by simp[dW.fits,g0,g1]],S.E⟩
  ·refine wp_skip<|wB _ _<|Vp.region<|adr S 2 [] [(13,.int .i64 2)] fun ac S=>aiF ?_
   show Code.rounds _ _ _ 2 _ _
   rw[rounds_succ]
   refine aiG fun _ nJ=>adr S 1 [] [(14,.bool true)] fun ac S=>aiF<|nJ _ _<|wp_seq_k fun _ qo=>aiN S<|wp_skip<|qo _ _<|wp_seq_k fun _ jG=>wp_block<|aiG fun _ ug=>adr S 3 [.mem 2 4] [(15,.int .i64 2),(17,.agg #[.int .i64 s.c.x,.int .i64 s.c.y])] fun ac S=>aiJ S 4 [.int .i64 0,.int .i64 0] fun ac u b40 E41 ais S=>adr S 1 [] [(3,.int .i64 2)] fun ac S=>aiL S 0 (off:=0) (cs:=[.int .i64 s.c.x,.int .i64 s.c.y]) rfl fun u C43 S=>aiF<|ug _ _<|aiG fun _ wE=>adr S 1 [.mem 0 0] [(18,.agg #[.int .i64 s.c.x,.int .i64 s.c.y])] fun ac S=>aiM S 19 (lq (s.c.x) (s.c.y) _) fun ac u E45 S=>aiT S 13 [.mem 4 0,.mem 0 0,.cmp .neq 60 (.tmp 28) (.tmp 29) (.agg #[.int .i64 s.c.x,.int .i64 s.c.y]) (.agg #[.int .i64 0,.int .i64 0]) (.bool (!((s.c.x==0)&&(s.c.y==0))))] [(_,_,(!(!(kE.valid ⟨s.c.x,s.c.y⟩))),.int .i64 (named s.verb))] [(32,.bool ((!(kE.valid ⟨s.c.x,s.c.y⟩))||((decide ((named s.verb)≤2))&&(!((s.c.x==0)&&(s.c.y==0))))))] ⟨fun u hC g=>aiU (xX (s.verb) _),trivial⟩ (hk:=⟨aiX (fun _=>V6 ..) (by kernel_rfl),trivial⟩) fun ac u E46 S=>aiF (wE _ _ ?_)
   refine aiI S (fun hc47=>?_) (fun hc47=>?_)
   ·refine aiG fun _ yx=>adr S 1 [] [(2,.bool false)] fun ac S=>aiF<|yx _ _<|Vp.rt ?_
    have g0:kR s.verb 0 s.a=true:=by
     have hh:=hc21
     show(kE.valid ⟨s.a.x,s.a.y⟩ && !(decide (named s.verb≤0) && !((s.a.x==0)&&(s.a.y==0))))=_
     revert hh
     cases kE.valid ⟨s.a.x,s.a.y⟩<;>cases decide (named s.verb≤0)<;>cases ((s.a.x==0)&&(s.a.y==0))<;>simp
    have g1:kR s.verb 1 s.b=true:=by
     have hh:=hc34
     show(kE.valid ⟨s.b.x,s.b.y⟩ && !(decide (named s.verb≤1) && !((s.b.x==0)&&(s.b.y==0))))=_
     revert hh
     cases kE.valid ⟨s.b.x,s.b.y⟩<;>cases decide (named s.verb≤1)<;>cases ((s.b.x==0)&&(s.b.y==0))<;>simp
    have g2:kR s.verb 2 s.c=false:=by
     have hh:=hc47
     show(kE.valid ⟨s.c.x,s.c.y⟩ && !(decide (named s.verb≤2) && !((s.c.x==0)&&(s.c.y==0))))=_
     revert hh
     cases kE.valid ⟨s.c.x,s.c.y⟩<;>cases decide (named s.verb≤2)<;>cases ((s.c.x==0)&&(s.c.y==0))<;>simp
    refine aiH S Tryz.results194 ?_
    exact⟨by rw[show s.fits=false from by simp[dW.fits,g0,g1,g2]],S.E⟩
   ·refine wp_skip<|jG _ _<|Vp.region<|adr S 2 [] [(13,.int .i64 3)] fun ac S=>aiF ?_
    show Code.rounds _ _ _ 1 _ _
    rw[rounds_succ]
    refine aiG fun _ yA=>adr S 1 [] [(14,.bool false)] fun ac S=>aiF<|yA _ _<|wp_seq_k fun _ zW=>aiY S<|wp_exit<|bV _ _<|aiG fun _ JJ=>adr S 1 [] [(2,.bool true)] fun ac S=>aiF<|JJ _ _<|Vp.rt ?_
    have g0:kR s.verb 0 s.a=true:=by
     have hh:=hc21
     show(kE.valid ⟨s.a.x,s.a.y⟩ && !(decide (named s.verb≤0) && !((s.a.x==0)&&(s.a.y==0))))=_
     revert hh
     cases kE.valid ⟨s.a.x,s.a.y⟩<;>cases decide (named s.verb≤0)<;>cases ((s.a.x==0)&&(s.a.y==0))<;>simp
    have g1:kR s.verb 1 s.b=true:=by
     have hh:=hc34
     show(kE.valid ⟨s.b.x,s.b.y⟩ && !(decide (named s.verb≤1) && !((s.b.x==0)&&(s.b.y==0))))=_
     revert hh
     cases kE.valid ⟨s.b.x,s.b.y⟩<;>cases decide (named s.verb≤1)<;>cases ((s.b.x==0)&&(s.b.y==0))<;>simp
    have g2:kR s.verb 2 s.c=true:=by
     have hh:=hc47
     show(kE.valid ⟨s.c.x,s.c.y⟩ && !(decide (named s.verb≤2) && !((s.c.x==0)&&(s.c.y==0))))=_
     revert hh
     cases kE.valid ⟨s.c.x,s.c.y⟩<;>cases decide (named s.verb≤2)<;>cases ((s.c.x==0)&&(s.c.y==0))<;>simp
    refine aiH S Tryz.results194 ?_
    exact⟨by rw[show s.fits=true from by simp[dW.fits,g0,g1,g2]],S.E⟩
open Go.RowKit
variable{α:Type}
theorem NR{x:dW}{last:Int}(h:decide (named x.verb<0)=true):x.err last=2:=if_pos (of_decide_eq_true h)
theorem Jb{x:dW}{last:Int}(h:decide (named x.verb<0)=false)(h1:(!x.stands last)=true):x.err last=10:=by
 unfold dW.err; rw[if_neg (of_decide_eq_false h),if_pos (by simpa using h1)]
theorem Aw{x:dW}{last:Int}(h:decide (named x.verb<0)=false)(h1:(!x.stands last)=false)(h2:(!x.fits)=true):x.err last=6:=by
 unfold dW.err; rw[if_neg (of_decide_eq_false h),if_neg (by simpa using h1),if_pos (by simpa using h2)]
theorem NS{x:dW}{last:Int}(h:decide (named x.verb<0)=false)(h1:(!x.stands last)=false)(h2:(!x.fits)=false):x.err last=0:=by
 unfold dW.err; rw[if_neg (of_decide_eq_false h),if_neg (by simpa using h1),if_neg (by simpa using h2)]
theorem Ih{w:World}{v:Value}{l:List dW}(h:nP w v l) :
  Calls Tryz.prog 154 #[v] w fun e w'=>e = .returned (.tuple #[.int .i64 (dF l).1,.int .i64 (dF l).2])∧Ext w w':=by
 obtain⟨a,cap,rfl⟩:=h.1.shape
 have hmax:l.length≤9223372036854775807:=h.1.len
 refine aiK Tryz.func154 Tryz.ntmps154 fun ac S=>aiG fun _ aU=>adr S 2 [] [(2,.int .i64 0),(3,.int .i64 0)] fun ac S=>aiF<|aU _ _<|wp_seq_k fun _ fE=>aiG fun _ gW=>adr S 3 [] [(10,.bool (decide (256<((l.length:Nat):Int))))] fun ac S=>aiF (gW _ _ ?_)
 refine aiI S (fun hc4=>?_) (fun hc4=>?_)
 ·refine aiG fun _ bV=>adr S 2 [] [(2,.int .i64 5),(3,.int .i64 256)] fun ac S=>aiF<|bV _ _<|Vp.rt ?_
  have p0:256<(l.length:Int):=of_decide_eq_true hc4
  refine Sx.vM S Tryz.results154 ?_
  have e:dF l=(5,256):=by unfold dF; rw[if_pos p0]
  exact⟨by rw[e],S.E⟩
 ·refine wp_skip<|fE _ _<|aiG fun _ iK=>adr S 1 [] [(4,.int .i64 5)] fun ac S=>aiF<|iK _ _<|wp_seq_k fun _ kC=>aiG fun _ dP=>adr S 3 [] [(11,.slice a l.length cap),(12,.int .i64 ((l.length:Nat):Int)),(13,.int .i64 0)] fun ac S=>aiF<|dP _ _<|wp_block ?_
  refine Vp.loop (ι:=Nat×Int) (fun p a' w'=>p.1≤l.length∧(lS 5 0 l=lS p.2 (p.1:Int) (l.drop p.1))∧Sx.St w a' w' 52 [(0,.slice a l.length cap),(2,.int .i64 0),(3,.int .i64 0),(4,.int .i64 p.2),(11,.slice a l.length cap),(12,.int .i64 ((l.length:Nat):Int)),(13,.int .i64 ((p.1:Nat):Int))] [] []) (fun p=>l.length-p.1) (0,5) ⟨Nat.zero_le _,rfl,(S.sub [(0,.slice a l.length cap),(2,.int .i64 0),(3,.int .i64 0),(4,.int .i64 5),(11,.slice a l.length cap),(12,.int .i64 ((l.length:Nat):Int)),(13,.int .i64 ((0:Nat):Int))]).aK⟩ ?_
  rintro⟨k,last⟩ ac u hI
  try dsimp only at hI
  obtain⟨hk,hR,S⟩:=hI
  refine aiG fun _ gB=>adr S 1 [] [(14,.bool (decide (((k:Nat):Int)<((l.length:Nat):Int))))] fun ac S=>aiF<|gB _ _<|wp_seq_k (fun _ dV=>?_)
  refine aiI S (fun gu=>?_) (fun gu=>?_)
  ·refine wp_skip<|dV _ _<|wp_seq_k fun _ dw=>wp_block<|aiG (fun _ fZ=>?_)
   have kF:k<l.length:=by have:=of_decide_eq_true gu; omega
   obtain⟨b14,S9,c16,hv,yX,um⟩:=Vp.aF h.1 (fun _=>rfl) (k) kF
   simp only[Value.slice.injEq,true_and]at hv
   obtain⟨rfl,rfl⟩:=hv
   obtain⟨x20,lX⟩:∃z,l[k]=z:=⟨_,rfl⟩
   rw[lX]at um
   have S:=S.view0 yX um
   refine adr S 3 [.idx k l.length,.mem 0 0] [(15,.int .i64 ((k:Nat):Int)),(17,.agg x20.cells.toArray)] (hk:=⟨kF,trivial⟩) fun ac S=>aiJ S 6 [.int .i64 0,.int .i64 0,.int .i64 0,.int .i64 0,.int .i64 0,.int .i64 0,.int .i64 0] fun ac u b22 JA Qx S=>adr S 1 [] [(5,.int .i64 ((k:Nat):Int))] fun ac S=>aiL S 0 (off:=0) (cs:=x20.cells) rfl fun u C25 S=>aiF<|fZ _ _<|aiG fun _ kH=>adr S 17 [.mem 0 0,.mem 0 0] [(7,.bool (((x20.verb)==1)||(((last) != 5)&&(((x20.verb) != 5)||((last) != 1)))))] fun ac S=>aiF<|kH _ _<|wp_seq_k fun _ lJ=>wp_block<|aiG fun _ lK=>adr S 2 [.mem 0 0] [(36,.int .i64 x20.verb)] fun ac S=>ai1 S 37 (xX (x20.verb) _) fun ac S=>adr S 2 [] [(34,.bool (decide ((named x20.verb)<0)))] fun ac S=>aiF (lK _ _ ?_)
   refine aiI S (fun hc29=>?_) (fun hc29=>?_)
   ·refine aiG fun _ nI=>adr S 3 [] [(2,.int .i64 2),(3,.int .i64 ((k:Nat):Int))] fun ac S=>aiF<|nI _ _<|Vp.rt ?_
    have herr:x20.err last=2:=NR hc29
    have p0:¬256<(l.length:Int):=of_decide_eq_false hc4
    refine Sx.vM S Tryz.results154 ?_
    have e:dF l=(2,(k:Int)):=by
     unfold dF
     rw[if_neg (by omega),hR,List.drop_eq_getElem_cons kF,lX,lS,herr]
     rfl
    exact⟨by rw[e],S.E⟩
   ·refine aiG fun _ qg=>adr S 3 [] [(40,.bool (!(((x20.verb)==1)||(((last) != 5)&&(((x20.verb) != 5)||((last) != 1))))))] fun ac S=>aiF (qg _ _ ?_)
    refine aiI S (fun hc32=>?_) (fun hc32=>?_)
    ·refine aiG fun _ lW=>adr S 3 [] [(2,.int .i64 10),(3,.int .i64 ((k:Nat):Int))] fun ac S=>aiF<|lW _ _<|Vp.rt ?_
     have herr:x20.err last=10:=Jb hc29 hc32
     have p0:¬256<(l.length:Int):=of_decide_eq_false hc4
     refine Sx.vM S Tryz.results154 ?_
     have e:dF l=(10,(k:Int)):=by
      unfold dF
      rw[if_neg (by omega),hR,List.drop_eq_getElem_cons kF,lX,lS,herr]
      rfl
     exact⟨by rw[e],S.E⟩
    ·refine aiG fun _ uQ=>adr S 1 [.mem 0 0] [(45,.agg x20.cells.toArray)] fun ac S=>aiM S 46 (fits_any x20 _) fun ac u Xi S=>adr S 2 [] [(44,.bool (!x20.fits))] fun ac S=>aiF (uQ _ _ ?_)
     refine aiI S (fun zn=>?_) (fun zn=>?_)
     ·refine aiG fun _ qo=>adr S 3 [] [(2,.int .i64 6),(3,.int .i64 ((k:Nat):Int))] fun ac S=>aiF<|qo _ _<|Vp.rt ?_
      have herr:x20.err last=6:=Aw hc29 hc32 zn
      have p0:¬256<(l.length:Int):=of_decide_eq_false hc4
      refine Sx.vM S Tryz.results154 ?_
      have e:dF l=(6,(k:Int)):=by
       unfold dF
       rw[if_neg (by omega),hR,List.drop_eq_getElem_cons kF,lX,lS,herr]
       rfl
      exact⟨by rw[e],S.E⟩
     ·refine wp_skip<|lJ _ _<|Vp.region<|adr S 3 [.mem 0 0] [(4,.int .i64 x20.verb)] fun ac S=>aiF<|dw _ _<|Vp.region<|adr S 2 [.re 51 (.int .i64 (IntKind.i64.wrap (((k:Nat):Int)+1))) (.int .i64 (((k+1):Nat):Int))] [(13,.int .i64 (((k+1):Nat):Int))] (hk:=⟨aiR (by omega),trivial⟩) fun ac S=>aiF ?_
      show ∃i',_∧_
      have herr:x20.err last=0:=NS hc29 hc32 zn
      rw[List.drop_eq_getElem_cons kF,lX,lS,if_pos herr]at hR
      exact⟨((k+1),x20.verb),⟨by omega,hR,(S.sub [(0,.slice (some ⟨b14,S9,none⟩) l.length cap),(2,.int .i64 0),(3,.int .i64 0),(4,.int .i64 x20.verb),(11,.slice (some ⟨b14,S9,none⟩) l.length cap),(12,.int .i64 ((l.length:Nat):Int)),(13,.int .i64 (((k+1):Nat):Int))]).aK.uD 1⟩,by show _-_<_-_; omega⟩
  ·refine wp_exit<|kC _ _<|aiG fun _ jG=>adr S 2 [] [(2,.int .i64 0),(3,.int .i64 0)] fun ac S=>aiF<|jG _ _<|Vp.rt ?_
   have p0:¬256<(l.length:Int):=of_decide_eq_false hc4
   have p1:¬(k:Int)<(l.length:Int):=of_decide_eq_false gu
   refine Sx.vM S Tryz.results154 ?_
   have e:dF l=(0,0):=by
    unfold dF
    rw[if_neg (by omega),hR,List.drop_eq_nil_of_le (by omega)]
    rfl
   exact⟨by rw[e],S.E⟩
theorem yK{w:World}{v:Value}{l:List dW}(h:nP w v l) :
  Calls Tryz.prog 117 #[v] w fun e w'=>e = .returned (.bool (iW l))∧Ext w w':=by
 skip
 refine aiK Tryz.func117 Tryz.ntmps117 fun ac S=>aiG fun _ aU=>adr S 1 [] [(2,.bool false)] fun ac S=>aiF<|aU _ _<|aiG fun _ fE=>adr S 1 [] [(6,v)] fun ac S=>aiM S 7 (Ih (h.below S.E)) fun ac u E3 S=>adr S 5 [] [(3,.int .i64 ((dF l).1))] fun ac S=>aiF<|fE _ _<|aiG fun _ lG=>adr S 3 [] [(2,.bool (((dF l).1)==0))] fun ac S=>aiF<|lG _ _<|Vp.rt ?_
 refine aiH S Tryz.results117 ?_
 exact⟨rfl,S.E⟩
end Go.Proofs.YtfmkkemfhjkajaaGreatDoor
