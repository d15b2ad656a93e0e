/- Package scene: what an edit may name. -/
import Derived.Test.YtfmkkemfhjkajaaGreatDoorScW3
import Derived.Test.YtfmkkemfhjkajaaGreatDoorPk33
namespace Go.Proofs.YtfmkkemfhjkajaaGreatDoor
open Go.RowKit
variable{α:Type}{K:Nat}
set_option linter.unusedVariables false
/-- All fields that are left are zero. -/
def own5(i j k:Int)(c:PixD)(n:NodeD):Bool:=((((i==0)&&(j==0))&&(k==0))&&decide (c=PixD.none))&&decide (n.key=NodeK.zero)
theorem own5_eq(i j k:Int)(c:PixD)(n:NodeD):own5 i j k c n=(i==0&&(j==0&&(k==0&&(n.key==NodeK.zero&&c==PixD.none)))):=by
 unfold own5
 rw[show(n.key==NodeK.zero)=decide (n.key=NodeK.zero)from rfl,show(c==PixD.none)=decide (c=PixD.none)from rfl]
 ac_rfl
theorem zero_key:(nodeD0.key==NodeK.zero)=true:=by rw[show nodeD0.key=NodeK.zero from rfl]; simp
set_option maxRecDepth 100000 in
set_option maxHeartbeats 3200000 in
theorem scOwn_any{w:World}{e:EditD}(he:EditOk K w e) :
  Calls Tryz.prog 49 #[e.v] w fun r w'=>r = .returned (.bool e.key.named)∧Ext w w':=by
 skip
 refine Sx.enter Tryz.func49 Tryz.ntmps49 (fun ac S=>?_)
 have hK1:=he.2.2.2.2.2.2.2.2.1
 have hK2:=he.2.2.2.2.2.2.2.2.2
 refine Sx.seqP fun _ κ1=>Sx.newp S 1 e.cells fun ac u b2 E3 hb4 S=>Sx.run S 1 [] [(2,.bool false)] fun ac S=>Sx.done<|κ1 _ _<|wp_seq_k (fun κq κ5=>?_)
 have J6:∀(kd i j k:Int) (n:NodeD) (c:PixD) (ac:Act) (u:World),(own5 i j k c n=e.key.named)→(NodeOk K u n)→Sx.St w ac u 48 [(1,.pointer (some ⟨b2,0,none⟩)),(2,.bool false)] [(b2,(Sx.L [.int .i64 kd,.int .i64 i,.int .i64 j,.int .i64 k]++n.cells++c.cells))] []→κq ac u:=by
  intro kd i j k n c ac u ho hn S
  refine κ5 _ _<|Sx.seqP fun _ κ7=>Sx.runC S 26 [.mem 0 1,.mem 0 2,.mem 0 3,.mem 0 51,.cmp .eql 23 (.tmp 38) (.tmp 39) (.agg #[.int .u8 (c.r.toNat:Int),.int .u8 (c.g.toNat:Int),.int .u8 (c.b.toNat:Int),.int .u8 (c.a.toNat:Int)]) (.agg #[.int .u8 0,.int .u8 0,.int .u8 0,.int .u8 0]) (.bool (decide (c=PixD.none))),.mem 0 4] [(_,_,(((((i)==0)&&((j)==0))&&((k)==0))&&(decide (c=PixD.none))),.bool (decide (n.key=NodeK.zero)))] [(2,.bool ((((((i)==0)&&((j)==0))&&((k)==0))&&(decide (c=PixD.none)))&&(decide (n.key=NodeK.zero))))] ⟨fun u hC g=>nodeEqD (hn.below hC) (nodeD0_ok u hK1 hK2),trivial⟩ (hk:=⟨(Sx.cmp_agg (fun _=>col_eq c PixD.none _) (by kernel_rfl)),trivial⟩) fun ac u E8 S=>Sx.done<|κ7 _ _<|Vp.rt ?_
  refine Sx.ret1 S Tryz.results49 ?_
  exact⟨ret_bool (by rw[←ho]; rfl),S.E⟩
 refine Sx.seqP fun _ κ9=>Sx.run S 2 [.mem 0 0] [(4,.int .i64 e.kind)] fun ac S=>Sx.done<|κ9 _ _<|wp_block<|wp_seq_k fun _ κ10=>wp_block<|wp_seq_k fun _ κ11=>wp_block<|wp_seq_k fun _ κ12=>wp_block<|wp_seq_k fun _ κ13=>wp_block<|wp_seq_k fun _ κ14=>wp_block<|wp_seq_k fun _ κ15=>wp_block<|wp_seq_k fun _ κ16=>wp_seq_k fun _ κ17=>Sx.seqP fun _ κ18=>Sx.run S 2 [] [(5,.bool ((e.kind)==1))] fun ac S=>Sx.done (κ18 _ _ ?_)
 refine Sx.cond S (fun hc19=>?_) (fun hc19=>?_)
 ·refine wp_exit<|κ15 _ _<|Vp.region<|Sx.run S 1 [] [(15,.pointer (some ⟨b2,2,none⟩))] fun ac S=>Sx.store1 S 0 (off:=2) (v := .int .i64 0) rfl fun u C20 S=>Sx.done<|κ14 _ _<|Sx.seqP fun _ κ21=>Sx.run S 2 [] [(16,.agg (Sx.L [.int .i64 0,.int .i64 0,.int .i64 0]++Sx.za++Sx.L [.slice none 0 0,.int .i64 0,.int .u8 0,.int .i64 0,.bool false,.bool false,.slice none 0 0,.int .i64 0,.slice none 0 0,.int .i64 0,.int .i64 0,.int .i64 0,.int .i64 0,.slice none 0 0,.int .i64 0,.slice none 0 0,.int .i64 0,.int .i64 0,.slice none 0 0,.int .i64 0]).toArray),(17,.pointer (some ⟨b2,4,none⟩))] fun ac S=>Sx.store S 0 (off:=4) (cs:=(Sx.L [.int .i64 0,.int .i64 0,.int .i64 0]++Sx.za++Sx.L [.slice none 0 0,.int .i64 0,.int .u8 0,.int .i64 0,.bool false,.bool false,.slice none 0 0,.int .i64 0,.slice none 0 0,.int .i64 0,.int .i64 0,.int .i64 0,.int .i64 0,.slice none 0 0,.int .i64 0,.slice none 0 0,.int .i64 0,.int .i64 0,.slice none 0 0,.int .i64 0])) rfl fun u C22 S=>Sx.done<|κ21 _ _<|wp_exit ?_
  exact J6 e.kind e.id 0 e.depth nodeD0 e.color _ _ (by have hk:=hc19; rw[own5_eq]; unfold EditK.named; simp[EditD.key,zero_key,show e.kind=1 from by simpa using hk]) (nodeD0_ok u he.2.2.2.2.2.2.2.2.1 he.2.2.2.2.2.2.2.2.2) (S.sub [(1,.pointer (some ⟨b2,0,none⟩)),(2,.bool false)]).noviews
 ·refine wp_skip<|κ17 _ _<|wp_seq_k fun _ κ23=>Sx.seqP fun _ κ24=>Sx.run S 2 [] [(7,.bool ((e.kind)==4))] fun ac S=>Sx.done (κ24 _ _ ?_)
  refine Sx.cond S (fun hc25=>?_) (fun hc25=>?_)
  ·refine wp_exit<|κ14 _ _<|Sx.seqP fun _ κ26=>Sx.run S 2 [] [(16,.agg (Sx.L [.int .i64 0,.int .i64 0,.int .i64 0]++Sx.za++Sx.L [.slice none 0 0,.int .i64 0,.int .u8 0,.int .i64 0,.bool false,.bool false,.slice none 0 0,.int .i64 0,.slice none 0 0,.int .i64 0,.int .i64 0,.int .i64 0,.int .i64 0,.slice none 0 0,.int .i64 0,.slice none 0 0,.int .i64 0,.int .i64 0,.slice none 0 0,.int .i64 0]).toArray),(17,.pointer (some ⟨b2,4,none⟩))] fun ac S=>Sx.store S 0 (off:=4) (cs:=(Sx.L [.int .i64 0,.int .i64 0,.int .i64 0]++Sx.za++Sx.L [.slice none 0 0,.int .i64 0,.int .u8 0,.int .i64 0,.bool false,.bool false,.slice none 0 0,.int .i64 0,.slice none 0 0,.int .i64 0,.int .i64 0,.int .i64 0,.int .i64 0,.slice none 0 0,.int .i64 0,.slice none 0 0,.int .i64 0,.int .i64 0,.slice none 0 0,.int .i64 0])) rfl fun u C27 S=>Sx.done<|κ26 _ _<|wp_exit ?_
   exact J6 e.kind e.id e.index e.depth nodeD0 e.color _ _ (by have hk:=hc25; rw[own5_eq]; unfold EditK.named; simp[EditD.key,zero_key,show e.kind=4 from by simpa using hk]) (nodeD0_ok u he.2.2.2.2.2.2.2.2.1 he.2.2.2.2.2.2.2.2.2) (S.sub [(1,.pointer (some ⟨b2,0,none⟩)),(2,.bool false)]).noviews
  ·refine wp_skip<|κ23 _ _<|wp_seq_k fun _ κ28=>Sx.seqP fun _ κ29=>Sx.run S 2 [] [(9,.bool ((e.kind)==3))] fun ac S=>Sx.done (κ29 _ _ ?_)
   refine Sx.cond S (fun hc30=>?_) (fun hc30=>?_)
   ·refine wp_exit<|κ13 _ _<|Vp.region<|Sx.run S 1 [] [(18,.pointer (some ⟨b2,2,none⟩))] fun ac S=>Sx.store1 S 0 (off:=2) (v := .int .i64 0) rfl fun u C31 S=>Sx.run S 1 [] [(19,.pointer (some ⟨b2,3,none⟩))] fun ac S=>Sx.store1 S 0 (off:=3) (v := .int .i64 0) rfl fun u C32 S=>Sx.done<|κ12 _ _<|Sx.seqP fun _ κ33=>Sx.run S 1 [] [(20,.pointer (some ⟨b2,1,none⟩))] fun ac S=>Sx.store1 S 0 (off:=1) (v := .int .i64 0) rfl fun u C34 S=>Sx.done<|κ33 _ _<|wp_exit ?_
    exact J6 e.kind 0 0 0 e.node e.color _ _ (by have hk:=hc30; rw[own5_eq]; unfold EditK.named; simp[EditD.key,show e.kind=3 from by simpa using hk]) (he.2.2.2.2.below S.E) (S.sub [(1,.pointer (some ⟨b2,0,none⟩)),(2,.bool false)]).noviews
   ·refine wp_skip<|κ28 _ _<|wp_seq_k fun _ κ35=>Sx.seqP fun _ κ36=>Sx.run S 2 [] [(11,.bool ((e.kind)==2))] fun ac S=>Sx.done (κ36 _ _ ?_)
    refine Sx.cond S (fun hc37=>?_) (fun hc37=>?_)
    ·refine wp_exit<|κ12 _ _<|Sx.seqP fun _ κ38=>Sx.run S 1 [] [(20,.pointer (some ⟨b2,1,none⟩))] fun ac S=>Sx.store1 S 0 (off:=1) (v := .int .i64 0) rfl fun u C39 S=>Sx.done<|κ38 _ _<|wp_exit ?_
     exact J6 e.kind 0 e.index e.depth e.node e.color _ _ (by have hk:=hc37; rw[own5_eq]; unfold EditK.named; simp[EditD.key,show e.kind=2 from by simpa using hk]) (he.2.2.2.2.below S.E) (S.sub [(1,.pointer (some ⟨b2,0,none⟩)),(2,.bool false)]).noviews
    ·refine wp_skip<|κ35 _ _<|Sx.seqP fun _ κ40=>Sx.run S 2 [] [(13,.bool ((e.kind)==5))] fun ac S=>Sx.done (κ40 _ _ ?_)
     refine Sx.cond S (fun hc41=>?_) (fun hc41=>?_)
     ·refine wp_exit<|κ11 _ _<|Sx.seqP fun _ κ42=>Sx.run S 2 [] [(21,.agg #[.int .u8 0,.int .u8 0,.int .u8 0,.int .u8 0]),(22,.pointer (some ⟨b2,51,none⟩))] fun ac S=>Sx.store S 0 (off:=51) (cs:=[.int .u8 0,.int .u8 0,.int .u8 0,.int .u8 0]) rfl fun u C43 S=>Sx.done<|κ42 _ _<|wp_exit ?_
      exact J6 e.kind e.id e.index e.depth e.node PixD.none _ _ (by have hk:=hc41; rw[own5_eq]; unfold EditK.named; simp[EditD.key,show e.kind=5 from by simpa using hk]) (he.2.2.2.2.below S.E) (S.sub [(1,.pointer (some ⟨b2,0,none⟩)),(2,.bool false)]).noviews
     ·refine wp_skip<|κ16 _ _<|wp_exit<|κ10 _ _<|wp_seq_k fun _ κ44=>Sx.seqP fun _ κ45=>Sx.run S 1 [] [(2,.bool false)] fun ac S=>Sx.done<|κ45 _ _<|Vp.rt ?_
      refine Sx.ret1 S Tryz.results49 ?_
      exact⟨ret_bool (by unfold EditK.named; rw[if_neg (show ¬(e.key.kind=1)from by simpa[EditD.key]using hc19)]; rw[if_neg (show ¬(e.key.kind=2)from by simpa[EditD.key]using hc37)]; rw[if_neg (show ¬(e.key.kind=3)from by simpa[EditD.key]using hc30)]; rw[if_neg (show ¬(e.key.kind=4)from by simpa[EditD.key]using hc25)]; rw[if_neg (show ¬(e.key.kind=5)from by simpa[EditD.key]using hc41)]),S.E⟩
end Go.Proofs.YtfmkkemfhjkajaaGreatDoor
