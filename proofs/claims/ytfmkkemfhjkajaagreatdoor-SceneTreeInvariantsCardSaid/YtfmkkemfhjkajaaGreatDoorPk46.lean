/- The law SceneApplyValid. A walk that begins anew where it stands, and comes back; small sums. No program in sight. What the queries of a valid scene answer: parents, ends, ancestors and children belong together. No program in sight. -/
import Derived.Test.YtfmkkemfhjkajaaGreatDoorEx37
import Derived.Test.YtfmkkemfhjkajaaGreatDoorPk45
import Derived.Test.YtfmkkemfhjkajaaGreatDoorPk31
import Derived.Test.YtfmkkemfhjkajaaGreatDoorPk42
section
namespace Go.Proofs.YtfmkkemfhjkajaaGreatDoor
open Go.RowKit
variable{α:Type}{K:Nat}
set_option linter.unusedVariables false
theorem few_ok{w:World}{s:SceneD}{n:Int}(h:s.few n=true)(ho:s.ok w):SceneOk 20 w s∧(∀n∈s.ns,n.lim)∧(s.ns.length:Int)≤n:=few37_ok h ho.1 ho.2.1 ho.2.2
theorem scene_sp{base:Nat}{w w':World}{s:SceneD}{e0:TypeId}(he:Odd e0)(h:I64 s.w∧I64 s.h∧CpNodes base s.s s.ns w∧∀n∈s.ns,n.fitK K)(hs:Sp e0 w w'):SceneOk K w' s:=⟨h.1,h.2.1,isNodes_sp he h.2.2.1 h.2.2.2 hs⟩
theorem key_zero{t:SceneD}(h:t.key = .zero):t.w=0∧t.h=0∧t.ns.length=0:=
 ⟨congrArg SceneK.w h,congrArg SceneK.h h,by have:=congrArg (fun k:SceneK=>k.ns.length) h; simpa[SceneD.key,SceneK.zero]using this⟩
theorem with_wh{s t:SceneD}{e:EditK}(h:applyK s.key e=(t.key,0)):s.key.valid=true∧t.key.valid=true∧t.w=s.w∧t.h=s.h:=by
 obtain⟨h1,-,l,-,h4,h5⟩:=applyK_ok h
 exact⟨h1,h5,congrArg SceneK.w h4,congrArg SceneK.h h4⟩
theorem insert_end{s t:SceneD}{e:EditD}(h:applyK s.key e.key=(t.key,0))(hk:e.kind=1)(he:t.key.endOf e.index=IntKind.i64.wrap (e.index+1)):applyK t.key (.remove e.node.id)=(s.key,0):=by
 obtain⟨h1,h2,l,h3,h4,h5⟩:=applyK_ok h
 unfold nodesK at h3
 rw[if_pos (show e.key.kind=1 from hk)]at h3
 split at h3
 ·cases h3
 ·rename_i hn
  have hl:=(SceneK.valid_iff.1 h1).2.1
  have hw:IntKind.i64.wrap (e.index+1)=e.index+1:=by rw[IntKind.wrap_i64]; simp only[EditD.key]at hn; omega
  have hi:0≤e.index:=by simp only[EditD.key]at hn; omega
  have hh:t.key.has e.index=true:=by
   by_cases hh:t.key.has e.index=true
   ·exact hh
   ·unfold SceneK.endOf at he; rw[if_neg hh,hw]at he; omega
  have:=insert_back h hk (by
   unfold SceneK.endOf at he
   rw[if_pos hh,hw]at he
   show endK t.key.ns e.index.toNat=e.index.toNat+1
   omega)
  exact this.2.2
theorem rem_ok'(w:World){id:Int}(h:I64 id):EditOk 20 w ⟨2,id,0,0,nodeD0,.none⟩:=⟨(show I64 2 by decide),h,(show I64 0 by decide),(show I64 0 by decide),nodeD0_ok w (by decide) (by decide)⟩
theorem rep_ok{w:World}{x:NodeD}(h:NodeOk 20 w x):EditOk 20 w ⟨4,0,0,0,x,.none⟩:=⟨(show I64 4 by decide),(show I64 0 by decide),(show I64 0 by decide),(show I64 0 by decide),h⟩
set_option maxRecDepth 100000 in
set_option maxHeartbeats 3200000 in
theorem sceneApplyValid_any{w:World}{s:SceneD}{e:EditD}(h:s.ok w)(he:e.ok w)(hg:GlobOk w) :
  Calls Tryz.prog 5 #[s.v,e.v] w fun r w'=>r = .returned (.bool true)∧Ext w w':=by
 skip
 refine Sx.enter Tryz.func5 Tryz.ntmps5 fun ac S=>Sx.seqP fun _ κ1=>Sx.newp S 2 s.cells fun ac u b2 E3 hb4 S=>Sx.newp S 3 e.cells fun ac u b5 E6 hb7 S=>Sx.run S 1 [] [(4,.bool false)] fun ac S=>Sx.done<|κ1 _ _<|wp_seq_k fun _ κ8=>Sx.seqP fun _ κ9=>Sx.run S 1 [.mem 1 0] [(12,s.v)] fun ac S=>Sx.callv S 13 (few37_any ⟨(h.2.2.1.below S.E),fun n hn=>(h.2.2.2 n hn).below S.E⟩ 20) fun ac u E10 S=>Sx.runC S 7 [.mem 0 4] [(_,_,(!(!(s.few 20))),.bool e.node.small37)] [(20,.bool ((!(s.few 20))||(!e.node.small37)))] ⟨fun u hC g=>small37_any (he.2.2.2.2.below (Ext.trans' S.E hC)),trivial⟩ fun ac u E11 S=>Sx.done (κ9 _ _ ?_)
 refine Sx.cond S (fun hc12=>?_) (fun hc12=>?_)
 ·refine Sx.seqP fun _ κ13=>Sx.callv S 21 (exampleHolds_any (hg.below S.E)) fun ac u E14 S=>Sx.run S 1 [] [(4,.bool true)] fun ac S=>Sx.done<|κ13 _ _<|Vp.rt ?_
  refine Sx.ret1 S Tryz.results5 ?_
  exact⟨rfl,S.E⟩
 ·refine wp_skip<|κ8 _ _<|Sx.seqP (fun _ κ15=>?_)
  have hc0:s.few 20=true∧e.node.small37=true:=by simpa using hc12
  have hs:=few_ok hc0.1 h
  have heo:EditOk 20 w e∧e.node.lim:=⟨⟨he.1,he.2.1,he.2.2.1,he.2.2.2.1,(small37_ok hc0.2 he.2.2.2.2).1⟩,(small37_ok hc0.2 he.2.2.2.2).2⟩
  obtain⟨a,cap,es⟩:∃a c,s.s = .slice a s.ns.length c:=⟨_,_,rfl⟩
  have hr:=h.2.2.1
  rw[es]at hr
  refine Sx.run S 2 [.mem 1 0,.mem 0 0] [(23,s.v),(24,e.v)] fun ac S=>Sx.callG S (some 25) (scApply_any (K:=20) (hs.1.below S.E) (hg.below S.E) (heo.1.below S.E) hs.2.1 heo.2) ?_
  rintro e u ⟨t,code,rfl,har,E16⟩
  refine⟨_,rfl,E16,fun ac S=>?_⟩
  refine Sx.run S 3 [] [(26,t.v),(27,.int .i64 code)] fun ac S=>Sx.newp S 5 [.int .i64 0,.int .i64 0,.int .u8 0,.int .u8 0,.int .u8 0,.int .u8 0,.slice none 0 0] fun ac u b17 E18 hb19 S=>Sx.store S 0 (off:=0) (cs:=t.cells) rfl (fun u C20 S=>?_)
  have E21:=Sx.ext_ch E18 C20 (by omega)
  refine Sx.run S 1 [] [(6,.int .i64 code)] fun ac S=>Sx.done<|κ15 _ _<|wp_seq_k fun _ κ22=>Sx.seqP fun _ κ23=>Sx.run S 2 [] [(29,.bool ((code) != 0))] fun ac S=>Sx.done (κ23 _ _ ?_)
  refine Sx.cond S (fun hc24=>?_) (fun hc24=>?_)
  ·refine Sx.seqP fun _ κ25=>Sx.runC S 18 [.mem 0 6,.mem 0 0,.mem 0 1] [(_,_,((((((t.ns.length:Nat):Int))==0)&&((t.w)==0))&&((t.h)==0)),.bool true)] [(4,.bool (((((((t.ns.length:Nat):Int))==0)&&((t.w)==0))&&((t.h)==0))&&true))] ⟨fun u hC g=>exampleHolds_any (hg.below (Ext.trans' S.E hC)),trivial⟩ fun ac u E26 S=>Sx.done<|κ25 _ _<|Vp.rt ?_
   have hz:=key_zero (applyK_fail har.1.symm (by simpa using hc24))
   refine Sx.ret1 S Tryz.results5 ?_
   exact⟨ret_bool (by simp[hz.1,hz.2.1,hz.2.2]),S.E⟩
  ·refine wp_skip<|κ22 _ _<|wp_seq_k fun _ κ27=>Sx.seqP (fun _ κ28=>?_)
   have hcz:code=0:=by simpa using hc24
   have hap:applyK s.key e.key=(t.key,0):=by rw[←har.1,hcz]
   have hwt:=with_wh hap
   refine Sx.run S 1 [.mem 2 0] [(47,s.v)] fun ac S=>Sx.callv S 48 (scValid_any (K:=20) (s:=s) (hs.1.below S.E) (hg.below S.E)) fun ac u E29 S=>Sx.runC S 20 [.mem 0 0,.mem 0 0,.mem 2 0,.mem 0 1,.mem 2 1] [(_,_,(!(!s.key.valid)),.bool t.key.valid)] [(68,.bool ((((!s.key.valid)||(!t.key.valid))||((t.w) != s.w))||((t.h) != s.h)))] ⟨fun u hC g=>scValid_any (K:=20) (s:=t) (SceneOk.below har.2.2.1 (Ext.trans' E21 (Ext.trans' E29 hC))) (hg.below (Ext.trans' S.E hC)),trivial⟩ fun ac u E30 S=>Sx.done (κ28 _ _ ?_)
   refine Sx.cond S (fun hc31=>?_) (fun hc31=>?_)
   ·refine Sx.seqP fun _ κ32=>Sx.run S 1 [] [(4,.bool false)] fun ac S=>Sx.done<|κ32 _ _<|Vp.rt ?_
    exact absurd hc31 (by simp[hwt.1,hwt.2.1,hwt.2.2.1,hwt.2.2.2])
   ·refine wp_skip<|κ27 _ _<|wp_seq_k fun _ κ33=>wp_seq_k fun _ κ34=>Sx.draw S 13 [.mem 1 0,.mem 0 0,.mem 1 2,.mem 1 2] [(_,_,((e.kind)==1),.int .i64 (t.key.endOf e.index))] [(81,.bool (((e.kind)==1)&&(((t.key.endOf e.index))==(IntKind.i64.wrap (e.index+1)))))] ⟨fun u hC g=>scEndOf_any (K:=20) (s:=t) ((SceneOk.below har.2.2.1 (Ext.trans' E21 (Ext.trans' E29 (Ext.trans' E30 hC))))) (hg.below (Ext.trans' S.E hC)) e.index,trivial⟩ fun ac u E35 S=>Sx.done (κ34 _ _ ?_)
    refine Sx.cond S (fun hc36=>?_) (fun hc36=>?_)
    ·refine Sx.seqP (fun _ κ37=>?_)
     have hcc:e.kind=1∧t.key.endOf e.index=IntKind.i64.wrap (e.index+1):=by simpa using hc36
     have hib:=insert_end hap hcc.1 hcc.2
     refine Sx.run S 5 [.mem 0 0,.mem 1 4] [(83,t.v),(87,.agg (Sx.L [.int .i64 2,.int .i64 e.node.id,.int .i64 0,.int .i64 0,.int .i64 0,.int .i64 0,.int .i64 0]++Sx.za++Sx.L [.slice none 0 0,.int .i64 0,.int .u8 0,.int .i64 0,.bool false,.bool false,.slice none 0 0,.int .i64 0,.slice none 0 0,.int .i64 0,.int .i64 0,.int .i64 0,.int .i64 0,.slice none 0 0,.int .i64 0,.slice none 0 0,.int .i64 0,.int .i64 0,.slice none 0 0,.int .i64 0,.int .u8 0,.int .u8 0,.int .u8 0,.int .u8 0]).toArray)] fun ac S=>Sx.callG S (some 88) (scApply_any (K:=20) (s:=t) (e:=(⟨2,e.node.id,0,0,nodeD0,.none⟩:EditD)) (SceneOk.below har.2.2.1 (Ext.trans' E21 (Ext.trans' E29 (Ext.trans' E30 E35)))) (hg.below S.E) (rem_ok' _ he.2.2.2.2.1) (fun n hn=>(har.2.2.2 n hn).2) (nodeD0_lim w)) ?_
     rintro e u ⟨t2,code2,rfl,har2,E38⟩
     obtain⟨hk2,rfl⟩:=Prod.mk.inj (har2.1.trans hib)
     refine⟨_,rfl,E38,fun ac S=>?_⟩
     refine Sx.run S 3 [] [(89,t2.v),(90,.int .i64 0)] fun ac S=>Sx.newp S 7 [.int .i64 0,.int .i64 0,.int .u8 0,.int .u8 0,.int .u8 0,.int .u8 0,.slice none 0 0] fun ac u b39 E40 hb41 S=>Sx.store S 0 (off:=0) (cs:=t2.cells) rfl (fun u C42 S=>?_)
     have E43:=Sx.ext_ch (Ext.trans' E21 (Ext.trans' E29 (Ext.trans' E30 (Ext.trans' E35 (Ext.trans' E38 E40))))) C42 (by have:=(Ext.trans' E21 (Ext.trans' E29 (Ext.trans' E30 (Ext.trans' E35 E38)))).size; omega)
     have E44:=Sx.ext_ch E40 C42 (by omega)
     refine Sx.run S 1 [] [(8,.int .i64 0)] fun ac S=>Sx.done<|κ37 _ _<|Sx.seqP fun _ κ45=>Sx.run S 5 [.mem 0 0,.mem 3 0] [(93,.bool true),(94,t2.v),(95,s.v)] fun ac S=>Sx.callGG S (some 96) (calls_as (scEqual_any (K:=20) (s:=t2) (t:=s) ((SceneOk.below har2.2.2.1 E44)) (hs.1.below S.E)) (show Value.bool (decide (t2.key=s.key)) = .bool true by rw[hk2]; simp)) ?_
     rintro e u ⟨rfl,E46⟩
     refine⟨_,rfl,E46,fun ac S=>?_⟩
     refine Sx.run S 2 [] [(98,.bool true)] fun ac S=>Sx.callGG S (some 99) (exampleHolds_any (hg.below S.E)) ?_
     rintro e u ⟨rfl,E47⟩
     refine⟨_,rfl,E47,fun ac S=>?_⟩
     refine Sx.run S 2 [] [(4,.bool true)] fun ac S=>Sx.done<|κ45 _ _<|Vp.rt ?_
     refine Sx.ret1 S Tryz.results5 ?_
     exact⟨rfl,S.E⟩
    ·refine wp_skip<|κ33 _ _<|wp_seq_k fun _ κ48=>Sx.seqP fun _ κ49=>Sx.run S 3 [.mem 1 0] [(103,.bool ((e.kind)==4))] fun ac S=>Sx.done (κ49 _ _ ?_)
     refine Sx.cond S (fun hc50=>?_) (fun hc50=>?_)
     ·refine Sx.seqP (fun _ κ51=>?_)
      obtain⟨i,hi,hfk,hrb⟩:=replace_back hap (by simpa[EditD.key]using hc50)
      have hi:i<s.ns.length:=by simpa[SceneD.key]using hi
      have hix:s.key.index e.node.id=(i:Int):=by unfold SceneK.index; rw[if_pos hwt.1]; unfold findI; rw[show findK s.key.ns e.node.id=some i from hfk]
      refine Sx.run S 4 [.mem 2 0,.mem 1 4] [(104,s.v),(107,.int .i64 e.node.id)] fun ac S=>Sx.callv S 108 (calls_as (scIndex_any (K:=20) (s:=s) (hs.1.below S.E) (hg.below S.E) e.node.id) (congrArg (Value.int .i64) hix)) fun ac u E52 S=>Sx.run S 1 [] [(9,.int .i64 ((i:Nat):Int))] fun ac S=>Sx.done<|κ51 _ _<|wp_seq_k fun _ κ53=>Sx.seqP fun _ κ54=>Sx.run S 9 [.mem 2 6,.re 114 s.s (.slice a s.ns.length cap)] [(117,.bool ((decide (((i:Nat):Int)<0))||(decide (((s.ns.length:Nat):Int)≤((i:Nat):Int)))))] (hk:=⟨es,trivial⟩) fun ac S=>Sx.done (κ54 _ _ ?_)
      refine Sx.cond S (fun hc55=>?_) (fun hc55=>?_)
      ·refine Sx.seqP fun _ κ56=>Sx.run S 1 [] [(4,.bool false)] fun ac S=>Sx.done<|κ56 _ _<|Vp.rt ?_
       exact absurd hc55 (by simp[hi])
      ·refine wp_skip<|κ53 _ _<|wp_seq_k (fun _ κ57=>?_)
       have hold:=fun p hp=>(S.own p hp).1.1
       have hold0:=S.E.size
       have lt64:i<s.ns.length:=hi
       obtain⟨b59,o60,c61,hv,hb66,hr62⟩:=Vp.rowN_range2 hr (fun _=>rfl) (i) lt64
       simp only[Value.slice.injEq,true_and]at hv
       obtain⟨rfl,rfl⟩:=hv
       obtain⟨x65,hx63⟩:∃z,s.ns[i]=z:=⟨_,rfl⟩
       rw[hx63]at hr62
       have hrx:s.key.ns[i]'(by simpa[SceneD.key]using hi)=x65.key:=by simp[SceneD.key,hx63]
       have S:=S.view0 hb66 hr62
       refine Sx.delay 10 8 12 ?_
       refine Sx.drawXA S 12 [(126,fun v w1=>∃t2:SceneD,v = .tuple #[t2.v,.int .i64 0]∧t2.key=s.key∧I64 t2.w∧I64 t2.h∧CpNodes u.heap.size t2.s t2.ns w1∧∀n∈t2.ns,n.fitK 20),(118,fun v w1=>∃t2:SceneD,v = .tuple #[t2.v,.int .i64 0]∧t2.key=s.key∧I64 t2.w∧I64 t2.h∧CpNodes u.heap.size t2.s t2.ns w1∧∀n∈t2.ns,n.fitK 20),(127,fun v w1=>∃t2:SceneD,v=t2.v∧t2.key=s.key∧I64 t2.w∧I64 t2.h∧CpNodes u.heap.size t2.s t2.ns w1∧∀n∈t2.ns,n.fitK 20),(128,fun v w1=>v = .int .i64 0),(10,fun v w1=>∃b,v = .pointer (some ⟨b,0,none⟩)∧u.heap.size≤b∧w1.heap[b]?=some (.cells (List.toArray [.int .i64 0,.int .i64 0,.int .u8 0,.int .u8 0,.int .u8 0,.int .u8 0,.slice none 0 0]) 26 (0,0))∧Bx w1 b (List.toArray [.int .i64 0,.int .i64 0,.int .u8 0,.int .u8 0,.int .u8 0,.int .u8 0,.slice none 0 0]))] (fun r=>[.mem 0 0,.mem 2 6,.re 121 s.s (.slice (some ⟨b59,o60,none⟩) s.ns.length cap),.idx i s.ns.length,.mem 3 0,.hand 118 [],.hand 127 [],.hand 128 [],.hand 10 []]) (fun x=>[x 126,x 118,x 127,x 128,x 10]) (fun x=>[(_,_,true,x 126,126)]) [[]] (fun x=>[(10,x 10),(127,x 127),(128,x 128)]) ⟨fun _ _ _ k h=>by obtain⟨t2,e,h1,h2,h3,h4,h5⟩:=h; exact⟨t2,e,h1,h2,h3,Sx.On.ext h4 k,h5⟩,fun _ _ _ k h=>by obtain⟨t2,e,h1,h2,h3,h4,h5⟩:=h; exact⟨t2,e,h1,h2,h3,Sx.On.ext h4 k,h5⟩,fun _ _ _ k h=>by obtain⟨t2,e,h1,h2,h3,h4,h5⟩:=h; exact⟨t2,e,h1,h2,h3,Sx.On.ext h4 k,h5⟩,fun _ _ _ _ h=>h,fun _ w1 w2 k h=>by obtain⟨b,e,h1,h2,h3⟩:=h; exact⟨b,e,h1,(k.block b (Sx.bx_obj h2).1).trans h2,h3.ext k⟩,trivial⟩ (fun x=>⟨by intro u hC g F; exact(scApply_any (K:=20) (s:=t) (e:=(⟨4,0,0,0,x65,.none⟩:EditD)) (SceneOk.below har.2.2.1 (Ext.trans' E21 (Ext.trans' E29 (Ext.trans' E30 (Ext.trans' E35 (Ext.trans' E52 hC)))))) (hg.below (Ext.trans' S.E hC)) (rep_ok ((hs.1.2.2.2 _ (hx63▸List.getElem_mem lt64)).below (Ext.trans' S.E hC))) (fun n hn=>(har.2.2.2 n hn).2) (hs.2.1 _ (hx63▸List.getElem_mem lt64))).mono fun e w2 h=>by obtain⟨t2,code2,rfl,har2,hb⟩:=h; exact⟨_,rfl,(by obtain⟨hk2,rfl⟩:=Prod.mk.inj (har2.1.trans (hrx▸hrb)); exact⟨t2,rfl,hk2,har2.2.2.1.1,har2.2.2.1.2.1,CpNodes.le har2.2.1 hC.size,fun n hn=>(har2.2.2.2 n hn).1⟩),hb⟩,trivial⟩) (fun ac u x E58 F S=>?_) (hk:=fun r=>⟨es,lt64,trivial,trivial,trivial,trivial,trivial⟩) (hl:=[(8,[126]),(9,[118]),(10,[118]),(11,[])]) (hH:=fun x r=>⟨fun o ho ρ u hs hE hρ hV F=>by obtain⟨F126,-⟩:=F; exact Sx.does_ev ho hs [(126,x 126)] (Sx.look1 (hρ 126 (by decide) rfl)) (x 126) (Sx.hp_of ho rfl rfl Ext.rfl' F126),fun o ho ρ u hs hE hρ hV F=>by obtain⟨F118,-⟩:=F; obtain⟨t2,e,h2⟩:=F118; exact Sx.does_ev ho hs [(118,.tuple #[t2.v,.int .i64 0])] (Sx.look1 ((hρ 118 (by decide) rfl).trans e)) (t2.v) (Sx.hp_of ho rfl rfl Ext.rfl' ⟨t2,rfl,h2⟩),fun o ho ρ u hs hE hρ hV F=>by obtain⟨F118,-⟩:=F; obtain⟨t2,e,h2⟩:=F118; exact Sx.does_ev ho hs [(118,.tuple #[t2.v,.int .i64 0])] (Sx.look1 ((hρ 118 (by decide) rfl).trans e)) (.int .i64 0) (Sx.hp_of ho rfl rfl Ext.rfl' rfl),fun o ho ρ u hs hE hρ hV F=>by exact Sx.does_newT ho hs [] (fun _ _ h=>by cases h) [.int .i64 0,.int .i64 0,.int .u8 0,.int .u8 0,.int .u8 0,.int .u8 0,.slice none 0 0] 26 (fun b w' h1 h2 h3 h4=>Sx.hp_of ho rfl rfl h4 ⟨b,rfl,Nat.le_trans hE.size h1,h2,h3⟩),trivial⟩)
       obtain⟨F126,F118,F127,F128,F10,-⟩:=F
       clear F126
       clear F118
       obtain⟨t2,e127,hk2,ht2⟩:=F127
       rw[e127]at S
       rw[F128]at S
       obtain⟨v26,F10,hb26,hv26,hx26⟩:=F10
       rw[F10]at S
       have S:=S.noviews
       have S:=S.adopt (A:=[.int .i64 0,.int .i64 0,.int .u8 0,.int .u8 0,.int .u8 0,.int .u8 0,.slice none 0 0]) hx26 (by omega) (fun p hp=>by have:=hold p hp; omega) (fun m hm=>by cases hm)
       refine Sx.store S 0 (off:=0) (cs:=t2.cells) rfl (fun u C67 S=>?_)
       have E68:=Sx.ext_ch (Ext.trans' E21 (Ext.trans' E29 (Ext.trans' E30 (Ext.trans' E35 (Ext.trans' E52 E58))))) C67 (by have:=(Ext.trans' E21 (Ext.trans' E29 (Ext.trans' E30 (Ext.trans' E35 E52)))).size; omega)
       have Fs69:=scene_sp (e0:=26) (by decide) ht2 (sp_ch hv26 C67)
       refine Sx.run S 1 [] [(11,.int .i64 0)] fun ac S=>Sx.done<|κ57 _ _<|Sx.seqP fun _ κ70=>Sx.run S 5 [.mem 0 0,.mem 3 0] [(131,.bool true),(132,t2.v),(133,s.v)] fun ac S=>Sx.callGG S (some 134) (calls_as (scEqual_any (K:=20) (s:=t2) (t:=s) (Fs69) (hs.1.below S.E)) (show Value.bool (decide (t2.key=s.key)) = .bool true by rw[hk2]; simp)) ?_
       rintro e u ⟨rfl,E71⟩
       refine⟨_,rfl,E71,fun ac S=>?_⟩
       refine Sx.run S 2 [] [(136,.bool true)] fun ac S=>Sx.callGG S (some 137) (exampleHolds_any (hg.below S.E)) ?_
       rintro e u ⟨rfl,E72⟩
       refine⟨_,rfl,E72,fun ac S=>?_⟩
       refine Sx.run S 2 [] [(4,.bool true)] fun ac S=>Sx.done<|κ70 _ _<|Vp.rt ?_
       refine Sx.ret1 S Tryz.results5 ?_
       exact⟨rfl,S.E⟩
     ·refine wp_skip<|κ48 _ _<|Sx.seqP fun _ κ73=>Sx.callv S 139 (exampleHolds_any (hg.below S.E)) fun ac u E74 S=>Sx.run S 1 [] [(4,.bool true)] fun ac S=>Sx.done<|κ73 _ _<|Vp.rt ?_
      refine Sx.ret1 S Tryz.results5 ?_
      exact⟨rfl,S.E⟩
end Go.Proofs.YtfmkkemfhjkajaaGreatDoor
end
section
namespace Go.Sx
open Go.Proofs.YtfmkkemfhjkajaaGreatDoor Go.RowKit Go.Rel
set_option linter.unusedVariables false
section
variable{w0 w w1 w2:World}{a a0:Act}{n:Nat}{l l0:List (Nat×Value)}{bl:List (Nat×List Value)}{vs vs0:List Mem1}
/-- From here on all that there is came in. -/
theorem St.re(S:St w0 a w n l bl vs):St w a w n l [] (mems bl vs):=⟨S.s,Ext.rfl',fun p hp=>(by cases hp),List.nodup_nil,fun m hm=>⟨S.memAll m hm,fun p hp=>(by cases hp)⟩⟩
/-- Back: what was the walk's own has not changed. -/
theorem St.back(S0:St w0 a0 w1 n l0 bl vs0)(S:St w2 a w n l [] vs)(h:Ext w1 w2):St w0 a w n l bl []:=
 have hE:Ext w1 w:=Ext.trans' h S.E
 ⟨S.s,(S0.grow hE).E,(S0.grow hE).own,S0.apart,fun m hm=>by cases hm⟩
end
theorem wrap_pred{n:Nat}(h:1≤n)(h2:n≤9223372036854775807):Value.int .i64 (IntKind.i64.wrap (((n:Nat):Int)-1)) = .int .i64 ((n-1:Nat):Int):=by
 have:IntKind.i64.wrap (((n:Nat):Int)-1)=((n-1:Nat):Int):=by rw[IntKind.wrap_i64]; omega
 rw[this]
theorem wrap_add{a b:Nat}(h:a+b≤9223372036854775807):Value.int .i64 (IntKind.i64.wrap (((a:Nat):Int)+((b:Nat):Int))) = .int .i64 ((a+b:Nat):Int):=by
 have:IntKind.i64.wrap (((a:Nat):Int)+((b:Nat):Int))=((a+b:Nat):Int):=by rw[IntKind.wrap_i64]; omega
 rw[this]
end Go.Sx
end
section
namespace Go.Proofs.YtfmkkemfhjkajaaGreatDoor
variable{s:SceneD}{i:Nat}
set_option linter.unusedVariables false
theorem inv_has(hv:s.key.valid=true)(hi:i<s.ns.length):s.key.has i=true:=by
 unfold SceneK.has
 rw[hv,show s.key.ns.length=s.ns.length from List.length_map ..]
 simp[hi]
theorem inv_tree(hv:s.key.valid=true):IsTree s.ns.length (depK (keys s.ns)):=by
 have:=(valid_vl hv).tree
 rwa [show s.key.ns.length=s.ns.length from List.length_map ..]at this
theorem inv_par(hv:s.key.valid=true)(hi:i<s.ns.length):s.key.parOf i=parN (depK (keys s.ns)) i:=by
 unfold SceneK.parOf
 rw[if_pos (inv_has hv hi)]; rfl
theorem inv_end(hv:s.key.valid=true)(hi:i<s.ns.length):s.key.endOf i=(finN s.ns.length (depK (keys s.ns)) i:Int):=by
 unfold SceneK.endOf
 rw[if_pos (inv_has hv hi)]
 show((endK (keys s.ns) i:Nat):Int)=_
 rw[endK_fin (by simpa using hi),show(keys s.ns).length=s.ns.length from List.length_map ..]
theorem inv_top(hv:s.key.valid=true):s.key.kids (-1)=kidsR s.ns.length (depK (keys s.ns)) (-1):=by
 unfold SceneK.kids
 rw[if_neg (by simp[hv]),if_neg (by decide),kids_top (inv_tree hv),show s.key.ns.length=s.ns.length from List.length_map ..]
 rfl
theorem inv_kids(hv:s.key.valid=true)(hi:i<s.ns.length):s.key.kids i=kidsR s.ns.length (depK (keys s.ns)) i:=by
 unfold SceneK.kids
 rw[if_neg (by simp[hv,inv_has hv hi]),if_pos (by omega),kids_node (inv_tree hv) hi]
 show kidsP _ (i+1) (endK (keys s.ns) i) _=_
 rw[endK_fin (by simpa using hi),show(keys s.ns).length=s.ns.length from List.length_map ..]
 rfl
/-- The ancestors of a node and its children. -/
structure InvS (s:SceneD) (i:Nat) (x:NodeD) (L:List Nat):Prop where
 ne:0<L.length
 len:(L.length:Int)=x.depth+1
 lt:∀y∈L,y<s.ns.length
 last:∀h:L.length-1<L.length,L[L.length-1]=i
 head:∀h:0<L.length,s.key.parOf L[0] = -1
 lo:(i:Int)<s.key.endOf i
 hi:s.key.endOf i≤s.ns.length
 next:∀j (h:j+1<L.length),s.key.parOf L[j+1]=(L[j]:Int)∧s.key.endOf L[j+1]≤s.key.endOf L[j]
 kid:∀y∈s.key.kids i,s.key.parOf y=i
 dep : -9223372036854775808≤x.depth∧x.depth<64
theorem inv_all(hv:s.key.valid=true)(hi:i<s.ns.length):InvS s i s.ns[i] (s.key.anc i):=by
 have T:=inv_tree hv
 have hd:depK (keys s.ns) i=s.ns[i].depth:=depK_keys hi
 have h8:depK (keys s.ns) i<8:=by rw[hd]; exact(valid_dep hv hi).2
 have h0:=(valid_dep hv hi).1
 have ea:s.key.anc i=ancP (depK (keys s.ns)) 8 i:=by unfold SceneK.anc; rw[if_pos (inv_has hv hi)]; rfl
 have W:=T.way 8 i hi h8
 have hl:=T.ancP_len (m:=8) hi h8
 have hf:=finN_spec (f:=depK (keys s.ns)) hi
 have hlt:∀(j:Nat) (h:j<(ancP (depK (keys s.ns)) 8 i).length),(ancP (depK (keys s.ns)) 8 i)[j]<s.ns.length:=fun j h=>W.lt _ (List.getElem_mem h)
 refine⟨?ne,?len,?lt,?last,?head,?lo,?hi,?next,?kid,?dep⟩
 case ne =>
  rw[ea]; omega
 case len =>
  rw[ea,hl,hd]
 case lt =>
  rw[ea]; exact W.lt
 case last =>
  intro h
  simp only[ea]at h ⊢
  have:=W.last
  rw[List.getLast?_eq_getElem?,List.getElem?_eq_getElem h]at this
  exact Option.some.inj this
 case head =>
  intro h
  simp only[ea]at h ⊢
  rw[inv_par hv (hlt _ h)]; exact W.head h
 case lo =>
  rw[inv_end hv hi]; omega
 case hi =>
  rw[inv_end hv hi]; omega
 case next =>
  intro j h
  simp only[ea]at h ⊢
  rw[inv_par hv (hlt _ h),inv_end hv (hlt _ h),inv_end hv (hlt j (by omega))]
  have:=W.next j h
  exact⟨this.1,by omega⟩
 case kid =>
  intro y hy
  rw[inv_kids hv hi]at hy
  obtain⟨h1,h2⟩:=kidsR_mem hy
  rw[inv_par hv h1,h2]
 case dep =>
  omega
/-- How many children there are, of the top level and of the first nodes. -/
noncomputable def SceneD.kidSum(s:SceneD)(m:Nat):Nat:=kidsSum s.ns.length (depK (keys s.ns)) m
theorem kidSum_zero(hv:s.key.valid=true):(s.key.kids (-1)).length=s.kidSum 0:=by rw[inv_top hv]; rfl
theorem kidSum_succ(hv:s.key.valid=true)(hi:i<s.ns.length):s.kidSum i+(s.key.kids i).length=s.kidSum (i+1):=by rw[inv_kids hv hi]; rfl
theorem kidSum_all:s.kidSum s.ns.length=s.ns.length:=kidsSum_all
theorem kidSum_le{m:Nat}:s.kidSum m≤s.ns.length:=by
 unfold SceneD.kidSum
 rw[kidsSum_eq]
 exact Nat.le_trans (List.length_filter_le _ _) (by simp)
theorem kids_le{j:Int}:(s.key.kids j).length≤s.ns.length:=by
 unfold SceneK.kids
 split
 ·simp
 ·rename_i h
  split
  ·rename_i hj
   have hh:s.key.has j=true:=has_id (by simpa using h) hj
   obtain⟨hv,q,rfl,hq⟩:=has_of hh
   refine Nat.le_trans kidsP_len ?_
   show endK (keys s.ns) ((q:Int)).toNat≤_
   rw[Int.toNat_natCast]
   exact endK_keys hq
  ·refine Nat.le_trans kidsP_len ?_
   rw[show s.key.ns.length=s.ns.length from List.length_map ..]; exact Nat.le_refl _
theorem kids_zero:SceneD.zero.key.kids (-1)=[]:=by
 have hv:SceneD.zero.key.valid=false:=by
  cases h:SceneD.zero.key.valid with
  | false=>rfl
  | true=>exact absurd (SceneK.valid_iff.1 h).1.1 (by show ¬(1:Int)≤0; decide)
 unfold SceneK.kids
 rw[if_pos (by simp[hv])]
theorem rowN_of_own{base:Nat}{w:World}{v:Value}{L:List Nat}(h:OwnN base w v L):IsRowN 1 (fun n:Nat=>[natv n]) w v L:=Sx.On.self (Sx.own_rowN (f:=fun n:Nat=>[natv n]) (L:=L) (fun _=>rfl) h rfl (flat_one L).symm)
end Go.Proofs.YtfmkkemfhjkajaaGreatDoor
end
