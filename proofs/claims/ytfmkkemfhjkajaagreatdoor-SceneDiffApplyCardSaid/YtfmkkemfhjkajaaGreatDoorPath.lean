/- Walks of packages intmath, vec and path: what the checks of a path answer. -/
import Derived.Test.YtfmkkemfhjkajaaGreatDoorPk11
import Derived.Test.YtfmkkemfhjkajaaGreatDoorSy
import Derived.LoopN
set_option maxHeartbeats 1600000
set_option maxRecDepth 100000
namespace Go.Proofs.YtfmkkemfhjkajaaGreatDoor
open Go.RowKit
variable{α:Type}
set_option linter.unusedVariables false
def clampI(n lo hi:Int):Int:=if n<lo then lo else if hi<n then hi else n
theorem valid_clamp(x y:Int):((clampI x (-1048576) 1048576==x)&&(clampI y (-1048576) 1048576==y))=PtD.valid ⟨x,y⟩:=by
 have h:∀z:Int,(clampI z (-1048576) 1048576==z)=cok z:=by
  intro z
  rw[Bool.eq_iff_iff]
  unfold clampI cok
  simp only[beq_iff_eq,Bool.and_eq_true,decide_eq_true_eq]
  (repeat' split)<;>omega
 rw[h,h]; rfl
theorem clamp_any(n lo hi:Int)(w:World) :
  Calls Tryz.prog 275 #[.int .i64 n,.int .i64 lo,.int .i64 hi] w fun e w'=>e = .returned (.int .i64 (clampI n lo hi))∧w=w':=by
 skip
 refine Sx.enter Tryz.func275 Tryz.ntmps275 fun ac S=>Sx.seqP fun _ κ1=>Sx.run S 1 [] [(6,.int .i64 0)] fun ac S=>Sx.done<|κ1 _ _<|wp_seq_k fun _ κ2=>wp_block<|Sx.seqP fun _ κ3=>Sx.run S 4 [] [(7,.bool (decide (n<lo)))] fun ac S=>Sx.done (κ3 _ _ ?_)
 refine Sx.cond S (fun hc4=>?_) (fun hc4=>?_)
 ·refine Sx.seqP fun _ κ5=>Sx.run S 2 [] [(6,.int .i64 lo)] fun ac S=>Sx.done<|κ5 _ _<|Vp.rt ?_
  have p0:=hc4
  try simp only[decide_eq_true_eq]at p0
  refine Sx.ret1 S Tryz.results275 ?_
  exact⟨ret_int (by unfold clampI; (repeat' split)<;>omega),rfl⟩
 ·refine Sx.seqP fun _ κ6=>Sx.run S 4 [] [(12,.bool (decide (hi<n)))] fun ac S=>Sx.done (κ6 _ _ ?_)
  refine Sx.cond S (fun hc7=>?_) (fun hc7=>?_)
  ·refine Sx.seqP fun _ κ8=>Sx.run S 2 [] [(6,.int .i64 hi)] fun ac S=>Sx.done<|κ8 _ _<|Vp.rt ?_
   have p0:=hc4
   try simp only[decide_eq_false_iff_not]at p0
   have p1:=hc7
   try simp only[decide_eq_true_eq]at p1
   refine Sx.ret1 S Tryz.results275 ?_
   exact⟨ret_int (by unfold clampI; (repeat' split)<;>omega),rfl⟩
  ·refine wp_skip<|κ2 _ _<|Sx.seqP fun _ κ9=>Sx.run S 2 [] [(6,.int .i64 n)] fun ac S=>Sx.done<|κ9 _ _<|Vp.rt ?_
   have p0:=hc4
   try simp only[decide_eq_false_iff_not]at p0
   have p1:=hc7
   try simp only[decide_eq_false_iff_not]at p1
   refine Sx.ret1 S Tryz.results275 ?_
   exact⟨ret_int (by unfold clampI; (repeat' split)<;>omega),rfl⟩
theorem held_any(n:Int)(w:World) :
  Calls Tryz.prog 269 #[.int .i64 n] w fun e w'=>e = .returned (.int .i64 (clampI n (-1048576) 1048576))∧w=w':=by
 skip
 refine Sx.enter Tryz.func269 Tryz.ntmps269 fun ac S=>Sx.seqP fun _ κ1=>Sx.run S 1 [] [(2,.int .i64 0)] fun ac S=>Sx.done<|κ1 _ _<|Sx.seqP fun _ κ2=>Sx.run S 1 [] [(3,.int .i64 n)] fun ac S=>Sx.calls S 4 (clamp_any (n) (-1048576) (1048576) _) fun ac S=>Sx.run S 1 [] [(2,.int .i64 (clampI n (-1048576) (1048576)))] fun ac S=>Sx.done<|κ2 _ _<|Vp.rt ?_
 refine Sx.ret1 S Tryz.results269 ?_
 exact⟨rfl,rfl⟩
theorem hold_any(x y:Int)(w:World) :
  Calls Tryz.prog 250 #[.agg #[.int .i64 x,.int .i64 y]] w fun e w'=>e = .returned (.agg #[.int .i64 (clampI x (-1048576) 1048576),.int .i64 (clampI y (-1048576) 1048576)])∧Ext w w':=by
 skip
 refine Sx.enter Tryz.func250 Tryz.ntmps250 fun ac S=>Sx.seqP fun _ κ1=>Sx.newp S 1 [.int .i64 x,.int .i64 y] fun ac u b2 E3 hb4 S=>Sx.newp S 2 [.int .i64 0,.int .i64 0] fun ac u b5 E6 hb7 S=>Sx.done<|κ1 _ _<|Sx.seqP fun _ κ8=>Sx.run S 1 [] [(3,.func (.func 269) #[] #[])] fun ac S=>Sx.done<|κ8 _ _<|wp_seq_k fun _ κ9=>Sx.draw S 9 [.mem 1 0,.mem 1 1] [(_,_,true,.int .i64 (clampI x (-1048576) 1048576)),(_,_,true,.int .i64 (clampI y (-1048576) 1048576))] [(12,.agg #[.int .i64 (clampI x (-1048576) 1048576),.int .i64 (clampI y (-1048576) 1048576)])] ⟨fun u hC g=>Sx.same (held_any x _),fun u hC g=>Sx.same (held_any y _),trivial⟩ fun ac u E10 S=>Sx.store S 0 (off:=0) (cs:=[.int .i64 (clampI x (-1048576) 1048576),.int .i64 (clampI y (-1048576) 1048576)]) rfl fun u C11 S=>Sx.done<|κ9 _ _<|Vp.rt ?_
 refine Sx.retc S 0 Tryz.results250 rfl (v := .agg #[.int .i64 (clampI x (-1048576) 1048576),.int .i64 (clampI y (-1048576) 1048576)]) ?_
 exact⟨rfl,S.E⟩
theorem vecValid_any(x y:Int)(w:World) :
  Calls Tryz.prog 225 #[.agg #[.int .i64 x,.int .i64 y]] w fun e w'=>e = .returned (.bool (PtD.valid ⟨x,y⟩))∧Ext w w':=by
 skip
 refine Sx.enter Tryz.func225 Tryz.ntmps225 fun ac S=>Sx.seqP fun _ κ1=>Sx.newp S 1 [.int .i64 x,.int .i64 y] fun ac u b2 E3 hb4 S=>Sx.run S 1 [] [(2,.bool false)] fun ac S=>Sx.done<|κ1 _ _<|wp_seq_k fun _ κ5=>Sx.draw S 4 [.mem 0 0,.mem 0 0,.cmp .eql 60 (.tmp 4) (.tmp 5) (.agg #[.int .i64 (clampI x (-1048576) 1048576),.int .i64 (clampI y (-1048576) 1048576)]) (.agg #[.int .i64 x,.int .i64 y]) (.bool (((clampI x (-1048576) 1048576)==x)&&((clampI y (-1048576) 1048576)==y)))] [(_,_,true,.agg #[.int .i64 (clampI x (-1048576) 1048576),.int .i64 (clampI y (-1048576) 1048576)])] [(6,.bool (((clampI x (-1048576) 1048576)==x)&&((clampI y (-1048576) 1048576)==y)))] ⟨fun u hC g=>hold_any x y _,trivial⟩ (hk:=⟨Sx.cmp_agg (fun _=>eqPt ..) (by kernel_rfl),trivial⟩) fun ac u E6 S=>Sx.run S 1 [] [(2,.bool (((clampI x (-1048576) 1048576)==x)&&((clampI y (-1048576) 1048576)==y)))] fun ac S=>Sx.done<|κ5 _ _<|Vp.rt ?_
 refine Sx.ret1 S Tryz.results225 ?_
 exact⟨by rw[←valid_clamp],S.E⟩
theorem named_any(v:Int)(w:World) :
  Calls Tryz.prog 193 #[.int .i64 v] w fun e w'=>e = .returned (.int .i64 (named v))∧w=w':=by
 skip
 refine Sx.enter Tryz.func193 Tryz.ntmps193 fun ac S=>Sx.seqP fun _ κ1=>Sx.run S 1 [] [(2,.int .i64 0)] fun ac S=>Sx.done<|κ1 _ _<|Sx.seqP fun _ κ2=>Sx.run S 1 [] [(3,.int .i64 0)] fun ac S=>Sx.done<|κ2 _ _<|wp_seq_k fun _ κ3=>Sx.seqP fun _ κ4=>Sx.run S 1 [] [(4,.int .i64 v)] fun ac S=>Sx.done<|κ4 _ _<|wp_block<|wp_seq_k fun _ κ5=>wp_block<|wp_seq_k fun _ κ6=>wp_block<|wp_seq_k fun _ κ7=>wp_block<|wp_seq_k fun _ κ8=>wp_block<|wp_seq_k fun _ κ9=>wp_block<|wp_seq_k fun _ κ10=>wp_seq_k fun _ κ11=>Sx.seqP fun _ κ12=>Sx.run S 2 [] [(5,.bool ((v)==4))] fun ac S=>Sx.done (κ12 _ _ ?_)
 refine Sx.cond S (fun hc13=>?_) (fun hc13=>?_)
 ·refine wp_exit<|κ9 _ _<|Vp.region<|Sx.run S 3 [] [(3,.int .i64 1)] fun ac S=>Sx.done<|κ8 _ _<|Vp.region<|Sx.run S 3 [] [(3,.int .i64 2)] fun ac S=>Sx.done<|κ7 _ _<|Sx.seqP fun _ κ14=>Sx.run S 3 [] [(3,.int .i64 3)] fun ac S=>Sx.done<|κ14 _ _<|wp_exit<|κ3 _ _<|Sx.seqP fun _ κ15=>Sx.run S 2 [] [(2,.int .i64 3)] fun ac S=>Sx.done<|κ15 _ _<|Vp.rt ?_
  have p0:=hc13
  try simp only[beq_iff_eq]at p0
  refine Sx.ret1 S Tryz.results193 ?_
  exact⟨ret_int (by unfold named; (repeat' split)<;>omega),rfl⟩
 ·refine wp_skip<|κ11 _ _<|wp_seq_k fun _ κ16=>Sx.seqP fun _ κ17=>Sx.run S 2 [] [(7,.bool ((v)==3))] fun ac S=>Sx.done (κ17 _ _ ?_)
  refine Sx.cond S (fun hc18=>?_) (fun hc18=>?_)
  ·refine wp_exit<|κ8 _ _<|Vp.region<|Sx.run S 3 [] [(3,.int .i64 1)] fun ac S=>Sx.done<|κ7 _ _<|Sx.seqP fun _ κ19=>Sx.run S 3 [] [(3,.int .i64 2)] fun ac S=>Sx.done<|κ19 _ _<|wp_exit<|κ3 _ _<|Sx.seqP fun _ κ20=>Sx.run S 2 [] [(2,.int .i64 2)] fun ac S=>Sx.done<|κ20 _ _<|Vp.rt ?_
   have p0:=hc13
   try simp only[beq_eq_false_iff_ne,ne_eq]at p0
   have p1:=hc18
   try simp only[beq_iff_eq]at p1
   refine Sx.ret1 S Tryz.results193 ?_
   exact⟨ret_int (by unfold named; (repeat' split)<;>omega),rfl⟩
  ·refine wp_skip<|κ16 _ _<|wp_seq_k fun _ κ21=>wp_seq_k fun _ κ22=>Sx.seqP fun _ κ23=>Sx.run S 2 [] [(9,.bool ((v)==1))] fun ac S=>Sx.done (κ23 _ _ ?_)
   refine Sx.cond S (fun hc24=>?_) (fun hc24=>?_)
   ·refine wp_skip<|κ22 _ _ ?_
    refine Sx.cond S (fun hc25=>?_) (fun hc25=>?_)
    ·refine wp_exit<|κ7 _ _<|Sx.seqP fun _ κ26=>Sx.run S 3 [] [(3,.int .i64 1)] fun ac S=>Sx.done<|κ26 _ _<|wp_exit<|κ3 _ _<|Sx.seqP fun _ κ27=>Sx.run S 2 [] [(2,.int .i64 1)] fun ac S=>Sx.done<|κ27 _ _<|Vp.rt ?_
     have p0:=hc13
     try simp only[beq_eq_false_iff_ne,ne_eq]at p0
     have p1:=hc18
     try simp only[beq_eq_false_iff_ne,ne_eq]at p1
     have p2:=hc24
     try simp only[beq_iff_eq]at p2
     have p3:=hc25
     try simp only[beq_iff_eq]at p3
     refine Sx.ret1 S Tryz.results193 ?_
     exact⟨ret_int (by unfold named; (repeat' split)<;>omega),rfl⟩
    ·refine wp_skip<|κ21 _ _<|Sx.seqP fun _ κ28=>Sx.run S 2 [] [(12,.bool ((v)==5))] fun ac S=>Sx.done (κ28 _ _ ?_)
     refine Sx.cond S (fun hc29=>?_) (fun hc29=>?_)
     ·refine wp_exit<|κ6 _ _<|wp_exit<|κ3 _ _<|Sx.seqP fun _ κ30=>Sx.run S 2 [] [(2,.int .i64 0)] fun ac S=>Sx.done<|κ30 _ _<|Vp.rt ?_
      have p0:=hc13
      try simp only[beq_eq_false_iff_ne,ne_eq]at p0
      have p1:=hc18
      try simp only[beq_eq_false_iff_ne,ne_eq]at p1
      have p2:=hc24
      try simp only[beq_iff_eq]at p2
      have p3:=hc25
      try simp only[beq_eq_false_iff_ne,ne_eq]at p3
      have p4:=hc29
      try simp only[beq_iff_eq]at p4
      refine Sx.ret1 S Tryz.results193 ?_
      exact⟨ret_int (by unfold named; (repeat' split)<;>omega),rfl⟩
     ·refine wp_skip<|κ10 _ _<|wp_exit<|κ5 _ _<|wp_seq_k fun _ κ31=>Sx.seqP fun _ κ32=>Sx.run S 1 [] [(2,.int .i64 (-1))] fun ac S=>Sx.done<|κ32 _ _<|Vp.rt ?_
      have p0:=hc13
      try simp only[beq_eq_false_iff_ne,ne_eq]at p0
      have p1:=hc18
      try simp only[beq_eq_false_iff_ne,ne_eq]at p1
      have p2:=hc24
      try simp only[beq_iff_eq]at p2
      have p3:=hc25
      try simp only[beq_eq_false_iff_ne,ne_eq]at p3
      have p4:=hc29
      try simp only[beq_eq_false_iff_ne,ne_eq]at p4
      refine Sx.ret1 S Tryz.results193 ?_
      exact⟨ret_int (by unfold named; (repeat' split)<;>omega),rfl⟩
   ·refine Vp.region<|Sx.run S 2 [] [(9,.bool ((v)==2))] fun ac S=>Sx.done (κ22 _ _ ?_)
    refine Sx.cond S (fun hc33=>?_) (fun hc33=>?_)
    ·refine wp_exit<|κ7 _ _<|Sx.seqP fun _ κ34=>Sx.run S 3 [] [(3,.int .i64 1)] fun ac S=>Sx.done<|κ34 _ _<|wp_exit<|κ3 _ _<|Sx.seqP fun _ κ35=>Sx.run S 2 [] [(2,.int .i64 1)] fun ac S=>Sx.done<|κ35 _ _<|Vp.rt ?_
     have p0:=hc13
     try simp only[beq_eq_false_iff_ne,ne_eq]at p0
     have p1:=hc18
     try simp only[beq_eq_false_iff_ne,ne_eq]at p1
     have p2:=hc24
     try simp only[beq_eq_false_iff_ne,ne_eq]at p2
     have p3:=hc33
     try simp only[beq_iff_eq]at p3
     refine Sx.ret1 S Tryz.results193 ?_
     exact⟨ret_int (by unfold named; (repeat' split)<;>omega),rfl⟩
    ·refine wp_skip<|κ21 _ _<|Sx.seqP fun _ κ36=>Sx.run S 2 [] [(12,.bool ((v)==5))] fun ac S=>Sx.done (κ36 _ _ ?_)
     refine Sx.cond S (fun hc37=>?_) (fun hc37=>?_)
     ·refine wp_exit<|κ6 _ _<|wp_exit<|κ3 _ _<|Sx.seqP fun _ κ38=>Sx.run S 2 [] [(2,.int .i64 0)] fun ac S=>Sx.done<|κ38 _ _<|Vp.rt ?_
      have p0:=hc13
      try simp only[beq_eq_false_iff_ne,ne_eq]at p0
      have p1:=hc18
      try simp only[beq_eq_false_iff_ne,ne_eq]at p1
      have p2:=hc24
      try simp only[beq_eq_false_iff_ne,ne_eq]at p2
      have p3:=hc33
      try simp only[beq_eq_false_iff_ne,ne_eq]at p3
      have p4:=hc37
      try simp only[beq_iff_eq]at p4
      refine Sx.ret1 S Tryz.results193 ?_
      exact⟨ret_int (by unfold named; (repeat' split)<;>omega),rfl⟩
     ·refine wp_skip<|κ10 _ _<|wp_exit<|κ5 _ _<|wp_seq_k fun _ κ39=>Sx.seqP fun _ κ40=>Sx.run S 1 [] [(2,.int .i64 (-1))] fun ac S=>Sx.done<|κ40 _ _<|Vp.rt ?_
      have p0:=hc13
      try simp only[beq_eq_false_iff_ne,ne_eq]at p0
      have p1:=hc18
      try simp only[beq_eq_false_iff_ne,ne_eq]at p1
      have p2:=hc24
      try simp only[beq_eq_false_iff_ne,ne_eq]at p2
      have p3:=hc33
      try simp only[beq_eq_false_iff_ne,ne_eq]at p3
      have p4:=hc37
      try simp only[beq_eq_false_iff_ne,ne_eq]at p4
      refine Sx.ret1 S Tryz.results193 ?_
      exact⟨ret_int (by unfold named; (repeat' split)<;>omega),rfl⟩
theorem fits_any(s:SegD)(w:World) :
  Calls Tryz.prog 194 #[.agg #[.int .i64 s.verb,.int .i64 s.a.x,.int .i64 s.a.y,.int .i64 s.b.x,.int .i64 s.b.y,.int .i64 s.c.x,.int .i64 s.c.y]] w fun e w'=>e = .returned (.bool s.fits)∧Ext w w':=by
 skip
 refine Sx.enter Tryz.func194 Tryz.ntmps194 fun ac S=>Sx.seqP fun _ κ1=>Sx.newp S 1 s.cells fun ac u b2 E3 hb4 S=>Sx.run S 1 [] [(2,.bool false)] fun ac S=>Sx.done<|κ1 _ _<|wp_seq_k fun _ κ5=>Sx.seqP fun _ κ6=>Sx.run S 6 [.mem 0 1,.mem 0 3,.mem 0 5] [(6,.agg #[.int .i64 s.a.x,.int .i64 s.a.y]),(8,.agg #[.int .i64 s.b.x,.int .i64 s.b.y]),(10,.agg #[.int .i64 s.c.x,.int .i64 s.c.y])] fun ac S=>Sx.news S 11 3 [.int .i64 s.a.x,.int .i64 s.a.y,.int .i64 s.b.x,.int .i64 s.b.y,.int .i64 s.c.x,.int .i64 s.c.y] fun ac u b7 E8 hb9 S=>Sx.run S 2 [] [(12,.int .i64 3),(13,.int .i64 0)] fun ac S=>Sx.done<|κ6 _ _<|wp_block<|wp_loop_rounds 4 ?_
 rw[rounds_succ]
 refine Sx.seqP fun _ κ10=>Sx.run S 1 [] [(14,.bool true)] fun ac S=>Sx.done<|κ10 _ _<|wp_seq_k fun _ κ11=>Sx.condT S<|wp_skip<|κ11 _ _<|wp_seq_k fun _ κ12=>wp_block<|Sx.seqP fun _ κ13=>Sx.run S 3 [.mem 0 0] [(15,.int .i64 0),(17,.agg #[.int .i64 s.a.x,.int .i64 s.a.y])] fun ac S=>Sx.newp S 4 [.int .i64 0,.int .i64 0] fun ac u b14 E15 hb16 S=>Sx.run S 1 [] [(3,.int .i64 0)] fun ac S=>Sx.store S 0 (off:=0) (cs:=[.int .i64 s.a.x,.int .i64 s.a.y]) rfl fun u C17 S=>Sx.done<|κ13 _ _<|Sx.seqP fun _ κ18=>Sx.run S 1 [.mem 0 0] [(18,.agg #[.int .i64 s.a.x,.int .i64 s.a.y])] fun ac S=>Sx.callv S 19 (vecValid_any (s.a.x) (s.a.y) _) fun ac u E19 S=>Sx.runC S 13 [.mem 2 0,.mem 0 0,.cmp .neq 60 (.tmp 28) (.tmp 29) (.agg #[.int .i64 s.a.x,.int .i64 s.a.y]) (.agg #[.int .i64 0,.int .i64 0]) (.bool (!((s.a.x==0)&&(s.a.y==0))))] [(_,_,(!(!(PtD.valid ⟨s.a.x,s.a.y⟩))),.int .i64 (named s.verb))] [(32,.bool ((!(PtD.valid ⟨s.a.x,s.a.y⟩))||((decide ((named s.verb)≤0))&&(!((s.a.x==0)&&(s.a.y==0))))))] ⟨fun u hC g=>Sx.same (named_any (s.verb) _),trivial⟩ (hk:=⟨Sx.cmp_agg (fun _=>nePt ..) (by kernel_rfl),trivial⟩) fun ac u E20 S=>Sx.done (κ18 _ _ ?_)
 refine Sx.cond S (fun hc21=>?_) (fun hc21=>?_)
 ·refine Sx.seqP fun _ κ22=>Sx.run S 1 [] [(2,.bool false)] fun ac S=>Sx.done<|κ22 _ _<|Vp.rt ?_
  have g0:fitAt s.verb 0 s.a=false:=by
   have hh:=hc21
   show(PtD.valid ⟨s.a.x,s.a.y⟩ && !(decide (named s.verb≤0) && !((s.a.x==0)&&(s.a.y==0))))=_
   revert hh
   cases PtD.valid ⟨s.a.x,s.a.y⟩<;>cases decide (named s.verb≤0)<;>cases ((s.a.x==0)&&(s.a.y==0))<;>simp
  refine Sx.ret1 S Tryz.results194 ?_
  exact⟨by rw[show s.fits=false from by simp[SegD.fits,g0]],S.E⟩
 ·refine wp_skip<|κ12 _ _<|Vp.region<|Sx.run S 2 [] [(13,.int .i64 1)] fun ac S=>Sx.done ?_
  show Code.rounds _ _ _ 3 _ _
  rw[rounds_succ]
  refine Sx.seqP fun _ κ23=>Sx.run S 1 [] [(14,.bool true)] fun ac S=>Sx.done<|κ23 _ _<|wp_seq_k fun _ κ24=>Sx.condT S<|wp_skip<|κ24 _ _<|wp_seq_k fun _ κ25=>wp_block<|Sx.seqP fun _ κ26=>Sx.run S 3 [.mem 1 2] [(15,.int .i64 1),(17,.agg #[.int .i64 s.b.x,.int .i64 s.b.y])] fun ac S=>Sx.newp S 4 [.int .i64 0,.int .i64 0] fun ac u b27 E28 hb29 S=>Sx.run S 1 [] [(3,.int .i64 1)] fun ac S=>Sx.store S 0 (off:=0) (cs:=[.int .i64 s.b.x,.int .i64 s.b.y]) rfl fun u C30 S=>Sx.done<|κ26 _ _<|Sx.seqP fun _ κ31=>Sx.run S 1 [.mem 0 0] [(18,.agg #[.int .i64 s.b.x,.int .i64 s.b.y])] fun ac S=>Sx.callv S 19 (vecValid_any (s.b.x) (s.b.y) _) fun ac u E32 S=>Sx.runC S 13 [.mem 3 0,.mem 0 0,.cmp .neq 60 (.tmp 28) (.tmp 29) (.agg #[.int .i64 s.b.x,.int .i64 s.b.y]) (.agg #[.int .i64 0,.int .i64 0]) (.bool (!((s.b.x==0)&&(s.b.y==0))))] [(_,_,(!(!(PtD.valid ⟨s.b.x,s.b.y⟩))),.int .i64 (named s.verb))] [(32,.bool ((!(PtD.valid ⟨s.b.x,s.b.y⟩))||((decide ((named s.verb)≤1))&&(!((s.b.x==0)&&(s.b.y==0))))))] ⟨fun u hC g=>Sx.same (named_any (s.verb) _),trivial⟩ (hk:=⟨Sx.cmp_agg (fun _=>nePt ..) (by kernel_rfl),trivial⟩) fun ac u E33 S=>Sx.done (κ31 _ _ ?_)
  refine Sx.cond S (fun hc34=>?_) (fun hc34=>?_)
  ·refine Sx.seqP fun _ κ35=>Sx.run S 1 [] [(2,.bool false)] fun ac S=>Sx.done<|κ35 _ _<|Vp.rt ?_
   have g0:fitAt s.verb 0 s.a=true:=by
    have hh:=hc21
    show(PtD.valid ⟨s.a.x,s.a.y⟩ && !(decide (named s.verb≤0) && !((s.a.x==0)&&(s.a.y==0))))=_
    revert hh
    cases PtD.valid ⟨s.a.x,s.a.y⟩<;>cases decide (named s.verb≤0)<;>cases ((s.a.x==0)&&(s.a.y==0))<;>simp
   have g1:fitAt s.verb 1 s.b=false:=by
    have hh:=hc34
    show(PtD.valid ⟨s.b.x,s.b.y⟩ && !(decide (named s.verb≤1) && !((s.b.x==0)&&(s.b.y==0))))=_
    revert hh
    cases PtD.valid ⟨s.b.x,s.b.y⟩<;>cases decide (named s.verb≤1)<;>cases ((s.b.x==0)&&(s.b.y==0))<;>simp
   refine Sx.ret1 S Tryz.results194 ?_
   exact⟨by rw[show s.fits=false from by simp[SegD.fits,g0,g1]],S.E⟩
  ·refine wp_skip<|κ25 _ _<|Vp.region<|Sx.run S 2 [] [(13,.int .i64 2)] fun ac S=>Sx.done ?_
   show Code.rounds _ _ _ 2 _ _
   rw[rounds_succ]
   refine Sx.seqP fun _ κ36=>Sx.run S 1 [] [(14,.bool true)] fun ac S=>Sx.done<|κ36 _ _<|wp_seq_k fun _ κ37=>Sx.condT S<|wp_skip<|κ37 _ _<|wp_seq_k fun _ κ38=>wp_block<|Sx.seqP fun _ κ39=>Sx.run S 3 [.mem 2 4] [(15,.int .i64 2),(17,.agg #[.int .i64 s.c.x,.int .i64 s.c.y])] fun ac S=>Sx.newp S 4 [.int .i64 0,.int .i64 0] fun ac u b40 E41 hb42 S=>Sx.run S 1 [] [(3,.int .i64 2)] fun ac S=>Sx.store S 0 (off:=0) (cs:=[.int .i64 s.c.x,.int .i64 s.c.y]) rfl fun u C43 S=>Sx.done<|κ39 _ _<|Sx.seqP fun _ κ44=>Sx.run S 1 [.mem 0 0] [(18,.agg #[.int .i64 s.c.x,.int .i64 s.c.y])] fun ac S=>Sx.callv S 19 (vecValid_any (s.c.x) (s.c.y) _) fun ac u E45 S=>Sx.runC S 13 [.mem 4 0,.mem 0 0,.cmp .neq 60 (.tmp 28) (.tmp 29) (.agg #[.int .i64 s.c.x,.int .i64 s.c.y]) (.agg #[.int .i64 0,.int .i64 0]) (.bool (!((s.c.x==0)&&(s.c.y==0))))] [(_,_,(!(!(PtD.valid ⟨s.c.x,s.c.y⟩))),.int .i64 (named s.verb))] [(32,.bool ((!(PtD.valid ⟨s.c.x,s.c.y⟩))||((decide ((named s.verb)≤2))&&(!((s.c.x==0)&&(s.c.y==0))))))] ⟨fun u hC g=>Sx.same (named_any (s.verb) _),trivial⟩ (hk:=⟨Sx.cmp_agg (fun _=>nePt ..) (by kernel_rfl),trivial⟩) fun ac u E46 S=>Sx.done (κ44 _ _ ?_)
   refine Sx.cond S (fun hc47=>?_) (fun hc47=>?_)
   ·refine Sx.seqP fun _ κ48=>Sx.run S 1 [] [(2,.bool false)] fun ac S=>Sx.done<|κ48 _ _<|Vp.rt ?_
    have g0:fitAt s.verb 0 s.a=true:=by
     have hh:=hc21
     show(PtD.valid ⟨s.a.x,s.a.y⟩ && !(decide (named s.verb≤0) && !((s.a.x==0)&&(s.a.y==0))))=_
     revert hh
     cases PtD.valid ⟨s.a.x,s.a.y⟩<;>cases decide (named s.verb≤0)<;>cases ((s.a.x==0)&&(s.a.y==0))<;>simp
    have g1:fitAt s.verb 1 s.b=true:=by
     have hh:=hc34
     show(PtD.valid ⟨s.b.x,s.b.y⟩ && !(decide (named s.verb≤1) && !((s.b.x==0)&&(s.b.y==0))))=_
     revert hh
     cases PtD.valid ⟨s.b.x,s.b.y⟩<;>cases decide (named s.verb≤1)<;>cases ((s.b.x==0)&&(s.b.y==0))<;>simp
    have g2:fitAt s.verb 2 s.c=false:=by
     have hh:=hc47
     show(PtD.valid ⟨s.c.x,s.c.y⟩ && !(decide (named s.verb≤2) && !((s.c.x==0)&&(s.c.y==0))))=_
     revert hh
     cases PtD.valid ⟨s.c.x,s.c.y⟩<;>cases decide (named s.verb≤2)<;>cases ((s.c.x==0)&&(s.c.y==0))<;>simp
    refine Sx.ret1 S Tryz.results194 ?_
    exact⟨by rw[show s.fits=false from by simp[SegD.fits,g0,g1,g2]],S.E⟩
   ·refine wp_skip<|κ38 _ _<|Vp.region<|Sx.run S 2 [] [(13,.int .i64 3)] fun ac S=>Sx.done ?_
    show Code.rounds _ _ _ 1 _ _
    rw[rounds_succ]
    refine Sx.seqP fun _ κ49=>Sx.run S 1 [] [(14,.bool false)] fun ac S=>Sx.done<|κ49 _ _<|wp_seq_k fun _ κ50=>Sx.condF S<|wp_exit<|κ5 _ _<|Sx.seqP fun _ κ51=>Sx.run S 1 [] [(2,.bool true)] fun ac S=>Sx.done<|κ51 _ _<|Vp.rt ?_
    have g0:fitAt s.verb 0 s.a=true:=by
     have hh:=hc21
     show(PtD.valid ⟨s.a.x,s.a.y⟩ && !(decide (named s.verb≤0) && !((s.a.x==0)&&(s.a.y==0))))=_
     revert hh
     cases PtD.valid ⟨s.a.x,s.a.y⟩<;>cases decide (named s.verb≤0)<;>cases ((s.a.x==0)&&(s.a.y==0))<;>simp
    have g1:fitAt s.verb 1 s.b=true:=by
     have hh:=hc34
     show(PtD.valid ⟨s.b.x,s.b.y⟩ && !(decide (named s.verb≤1) && !((s.b.x==0)&&(s.b.y==0))))=_
     revert hh
     cases PtD.valid ⟨s.b.x,s.b.y⟩<;>cases decide (named s.verb≤1)<;>cases ((s.b.x==0)&&(s.b.y==0))<;>simp
    have g2:fitAt s.verb 2 s.c=true:=by
     have hh:=hc47
     show(PtD.valid ⟨s.c.x,s.c.y⟩ && !(decide (named s.verb≤2) && !((s.c.x==0)&&(s.c.y==0))))=_
     revert hh
     cases PtD.valid ⟨s.c.x,s.c.y⟩<;>cases decide (named s.verb≤2)<;>cases ((s.c.x==0)&&(s.c.y==0))<;>simp
    refine Sx.ret1 S Tryz.results194 ?_
    exact⟨by rw[show s.fits=true from by simp[SegD.fits,g0,g1,g2]],S.E⟩
end Go.Proofs.YtfmkkemfhjkajaaGreatDoor
namespace Go.Proofs.YtfmkkemfhjkajaaGreatDoor
open Go.RowKit
variable{α:Type}
set_option linter.unusedVariables false
theorem seg_err2{x:SegD}{last:Int}(h:decide (named x.verb<0)=true):x.err last=2:=if_pos (of_decide_eq_true h)
theorem seg_err10{x:SegD}{last:Int}(h:decide (named x.verb<0)=false)(h1:(!x.stands last)=true):x.err last=10:=by
 unfold SegD.err; rw[if_neg (of_decide_eq_false h),if_pos (by simpa using h1)]
theorem seg_err6{x:SegD}{last:Int}(h:decide (named x.verb<0)=false)(h1:(!x.stands last)=false)(h2:(!x.fits)=true):x.err last=6:=by
 unfold SegD.err; rw[if_neg (of_decide_eq_false h),if_neg (by simpa using h1),if_pos (by simpa using h2)]
theorem seg_err0{x:SegD}{last:Int}(h:decide (named x.verb<0)=false)(h1:(!x.stands last)=false)(h2:(!x.fits)=false):x.err last=0:=by
 unfold SegD.err; rw[if_neg (of_decide_eq_false h),if_neg (by simpa using h1),if_neg (by simpa using h2)]
theorem pathCheck_any{w:World}{v:Value}{l:List SegD}(h:IsSegs w v l) :
  Calls Tryz.prog 154 #[v] w fun e w'=>e = .returned (.tuple #[.int .i64 (pathCheck l).1,.int .i64 (pathCheck l).2])∧Ext w w':=by
 obtain⟨a,cap,rfl⟩:=h.1.shape
 have hmax:l.length≤9223372036854775807:=h.1.len
 refine Sx.enter Tryz.func154 Tryz.ntmps154 fun ac S=>Sx.seqP fun _ κ1=>Sx.run S 2 [] [(2,.int .i64 0),(3,.int .i64 0)] fun ac S=>Sx.done<|κ1 _ _<|wp_seq_k fun _ κ2=>Sx.seqP fun _ κ3=>Sx.run S 3 [] [(10,.bool (decide (256<((l.length:Nat):Int))))] fun ac S=>Sx.done (κ3 _ _ ?_)
 refine Sx.cond S (fun hc4=>?_) (fun hc4=>?_)
 ·refine Sx.seqP fun _ κ5=>Sx.run S 2 [] [(2,.int .i64 5),(3,.int .i64 256)] fun ac S=>Sx.done<|κ5 _ _<|Vp.rt ?_
  have p0:256<(l.length:Int):=of_decide_eq_true hc4
  refine Sx.ret2 S Tryz.results154 ?_
  have e:pathCheck l=(5,256):=by unfold pathCheck; rw[if_pos p0]
  exact⟨by rw[e],S.E⟩
 ·refine wp_skip<|κ2 _ _<|Sx.seqP fun _ κ6=>Sx.run S 1 [] [(4,.int .i64 5)] fun ac S=>Sx.done<|κ6 _ _<|wp_seq_k fun _ κ7=>Sx.seqP fun _ κ8=>Sx.run S 3 [] [(11,.slice a l.length cap),(12,.int .i64 ((l.length:Nat):Int)),(13,.int .i64 0)] fun ac S=>Sx.done<|κ8 _ _<|wp_block ?_
  refine Vp.loop (ι:=Nat×Int) (fun p a' w'=>p.1≤l.length∧(pathErr 5 0 l=pathErr p.2 (p.1:Int) (l.drop p.1))∧Sx.St w a' w' 52 [(0,.slice a l.length cap),(2,.int .i64 0),(3,.int .i64 0),(4,.int .i64 p.2),(11,.slice a l.length cap),(12,.int .i64 ((l.length:Nat):Int)),(13,.int .i64 ((p.1:Nat):Int))] [] []) (fun p=>l.length-p.1) (0,5) ⟨Nat.zero_le _,rfl,(S.sub [(0,.slice a l.length cap),(2,.int .i64 0),(3,.int .i64 0),(4,.int .i64 5),(11,.slice a l.length cap),(12,.int .i64 ((l.length:Nat):Int)),(13,.int .i64 ((0:Nat):Int))]).noviews⟩ ?_
  rintro⟨k,last⟩ ac u hI
  try dsimp only at hI
  obtain⟨hk,hR,S⟩:=hI
  refine Sx.seqP fun _ κ9=>Sx.run S 1 [] [(14,.bool (decide (((k:Nat):Int)<((l.length:Nat):Int))))] fun ac S=>Sx.done<|κ9 _ _<|wp_seq_k (fun _ κ10=>?_)
  refine Sx.cond S (fun hc11=>?_) (fun hc11=>?_)
  ·refine wp_skip<|κ10 _ _<|wp_seq_k fun _ κ12=>wp_block<|Sx.seqP (fun _ κ13=>?_)
   have lt19:k<l.length:=by have:=of_decide_eq_true hc11; omega
   obtain⟨b14,o15,c16,hv,hb21,hr17⟩:=Vp.rowN_range2 h.1 (fun _=>rfl) (k) lt19
   simp only[Value.slice.injEq,true_and]at hv
   obtain⟨rfl,rfl⟩:=hv
   obtain⟨x20,hx18⟩:∃z,l[k]=z:=⟨_,rfl⟩
   rw[hx18]at hr17
   have S:=S.view0 hb21 hr17
   refine Sx.run S 3 [.idx k l.length,.mem 0 0] [(15,.int .i64 ((k:Nat):Int)),(17,.agg x20.cells.toArray)] (hk:=⟨lt19,trivial⟩) fun ac S=>Sx.newp S 6 [.int .i64 0,.int .i64 0,.int .i64 0,.int .i64 0,.int .i64 0,.int .i64 0,.int .i64 0] fun ac u b22 E23 hb24 S=>Sx.run S 1 [] [(5,.int .i64 ((k:Nat):Int))] fun ac S=>Sx.store S 0 (off:=0) (cs:=x20.cells) rfl fun u C25 S=>Sx.done<|κ13 _ _<|Sx.seqP fun _ κ26=>Sx.run S 17 [.mem 0 0,.mem 0 0] [(7,.bool (((x20.verb)==1)||(((last) != 5)&&(((x20.verb) != 5)||((last) != 1)))))] fun ac S=>Sx.done<|κ26 _ _<|wp_seq_k fun _ κ27=>wp_block<|Sx.seqP fun _ κ28=>Sx.run S 2 [.mem 0 0] [(36,.int .i64 x20.verb)] fun ac S=>Sx.calls S 37 (named_any (x20.verb) _) fun ac S=>Sx.run S 2 [] [(34,.bool (decide ((named x20.verb)<0)))] fun ac S=>Sx.done (κ28 _ _ ?_)
   refine Sx.cond S (fun hc29=>?_) (fun hc29=>?_)
   ·refine Sx.seqP fun _ κ30=>Sx.run S 3 [] [(2,.int .i64 2),(3,.int .i64 ((k:Nat):Int))] fun ac S=>Sx.done<|κ30 _ _<|Vp.rt ?_
    have herr:x20.err last=2:=seg_err2 hc29
    have p0:¬256<(l.length:Int):=of_decide_eq_false hc4
    refine Sx.ret2 S Tryz.results154 ?_
    have e:pathCheck l=(2,(k:Int)):=by
     unfold pathCheck
     rw[if_neg (by omega),hR,List.drop_eq_getElem_cons lt19,hx18,pathErr,herr]
     rfl
    exact⟨by rw[e],S.E⟩
   ·refine Sx.seqP fun _ κ31=>Sx.run S 3 [] [(40,.bool (!(((x20.verb)==1)||(((last) != 5)&&(((x20.verb) != 5)||((last) != 1))))))] fun ac S=>Sx.done (κ31 _ _ ?_)
    refine Sx.cond S (fun hc32=>?_) (fun hc32=>?_)
    ·refine Sx.seqP fun _ κ33=>Sx.run S 3 [] [(2,.int .i64 10),(3,.int .i64 ((k:Nat):Int))] fun ac S=>Sx.done<|κ33 _ _<|Vp.rt ?_
     have herr:x20.err last=10:=seg_err10 hc29 hc32
     have p0:¬256<(l.length:Int):=of_decide_eq_false hc4
     refine Sx.ret2 S Tryz.results154 ?_
     have e:pathCheck l=(10,(k:Int)):=by
      unfold pathCheck
      rw[if_neg (by omega),hR,List.drop_eq_getElem_cons lt19,hx18,pathErr,herr]
      rfl
     exact⟨by rw[e],S.E⟩
    ·refine Sx.seqP fun _ κ34=>Sx.run S 1 [.mem 0 0] [(45,.agg x20.cells.toArray)] fun ac S=>Sx.callv S 46 (fits_any x20 _) fun ac u E35 S=>Sx.run S 2 [] [(44,.bool (!x20.fits))] fun ac S=>Sx.done (κ34 _ _ ?_)
     refine Sx.cond S (fun hc36=>?_) (fun hc36=>?_)
     ·refine Sx.seqP fun _ κ37=>Sx.run S 3 [] [(2,.int .i64 6),(3,.int .i64 ((k:Nat):Int))] fun ac S=>Sx.done<|κ37 _ _<|Vp.rt ?_
      have herr:x20.err last=6:=seg_err6 hc29 hc32 hc36
      have p0:¬256<(l.length:Int):=of_decide_eq_false hc4
      refine Sx.ret2 S Tryz.results154 ?_
      have e:pathCheck l=(6,(k:Int)):=by
       unfold pathCheck
       rw[if_neg (by omega),hR,List.drop_eq_getElem_cons lt19,hx18,pathErr,herr]
       rfl
      exact⟨by rw[e],S.E⟩
     ·refine wp_skip<|κ27 _ _<|Vp.region<|Sx.run S 3 [.mem 0 0] [(4,.int .i64 x20.verb)] fun ac S=>Sx.done<|κ12 _ _<|Vp.region<|Sx.run S 2 [.re 51 (.int .i64 (IntKind.i64.wrap (((k:Nat):Int)+1))) (.int .i64 (((k+1):Nat):Int))] [(13,.int .i64 (((k+1):Nat):Int))] (hk:=⟨Sx.wrap_succ (by omega),trivial⟩) fun ac S=>Sx.done ?_
      show ∃i',_∧_
      have herr:x20.err last=0:=seg_err0 hc29 hc32 hc36
      rw[List.drop_eq_getElem_cons lt19,hx18,pathErr,if_pos herr]at hR
      exact⟨((k+1),x20.verb),⟨by omega,hR,(S.sub [(0,.slice (some ⟨b14,o15,none⟩) l.length cap),(2,.int .i64 0),(3,.int .i64 0),(4,.int .i64 x20.verb),(11,.slice (some ⟨b14,o15,none⟩) l.length cap),(12,.int .i64 ((l.length:Nat):Int)),(13,.int .i64 (((k+1):Nat):Int))]).noviews.dropB 1⟩,by show _-_<_-_; omega⟩
  ·refine wp_exit<|κ7 _ _<|Sx.seqP fun _ κ38=>Sx.run S 2 [] [(2,.int .i64 0),(3,.int .i64 0)] fun ac S=>Sx.done<|κ38 _ _<|Vp.rt ?_
   have p0:¬256<(l.length:Int):=of_decide_eq_false hc4
   have p1:¬(k:Int)<(l.length:Int):=of_decide_eq_false hc11
   refine Sx.ret2 S Tryz.results154 ?_
   have e:pathCheck l=(0,0):=by
    unfold pathCheck
    rw[if_neg (by omega),hR,List.drop_eq_nil_of_le (by omega)]
    rfl
   exact⟨by rw[e],S.E⟩
theorem pathValid_any{w:World}{v:Value}{l:List SegD}(h:IsSegs w v l) :
  Calls Tryz.prog 117 #[v] w fun e w'=>e = .returned (.bool (pathOk l))∧Ext w w':=by
 skip
 refine Sx.enter Tryz.func117 Tryz.ntmps117 fun ac S=>Sx.seqP fun _ κ1=>Sx.run S 1 [] [(2,.bool false)] fun ac S=>Sx.done<|κ1 _ _<|Sx.seqP fun _ κ2=>Sx.run S 1 [] [(6,v)] fun ac S=>Sx.callv S 7 (pathCheck_any (h.below S.E)) fun ac u E3 S=>Sx.run S 5 [] [(3,.int .i64 ((pathCheck l).1))] fun ac S=>Sx.done<|κ2 _ _<|Sx.seqP fun _ κ4=>Sx.run S 3 [] [(2,.bool (((pathCheck l).1)==0))] fun ac S=>Sx.done<|κ4 _ _<|Vp.rt ?_
 refine Sx.ret1 S Tryz.results117 ?_
 exact⟨rfl,S.E⟩
end Go.Proofs.YtfmkkemfhjkajaaGreatDoor
