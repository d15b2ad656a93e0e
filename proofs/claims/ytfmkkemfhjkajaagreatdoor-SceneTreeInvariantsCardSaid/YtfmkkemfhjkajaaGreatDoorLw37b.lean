/- The law SceneTreeInvariants. -/
import Derived.Test.YtfmkkemfhjkajaaGreatDoorEx37
import Derived.Test.YtfmkkemfhjkajaaGreatDoorPk45
import Derived.Test.YtfmkkemfhjkajaaGreatDoorPk46
namespace Go.Proofs.YtfmkkemfhjkajaaGreatDoor
open Go.RowKit
variable{α:Type}{K:Nat}
set_option linter.unusedVariables false
theorem few_ok2{w:World}{s:SceneD}{n:Int}(h:s.few n=true)(ho:s.ok w):SceneOk 20 w s∧(∀n∈s.ns,n.lim)∧(s.ns.length:Int)≤n:=few37_ok h ho.1 ho.2.1 ho.2.2
set_option maxRecDepth 100000 in
set_option maxHeartbeats 3200000 in
theorem sceneTreeInvariants_any{w:World}{s:SceneD}(h:s.ok w)(hg:GlobOk w) :
  Calls Tryz.prog 10 #[s.v] w fun r w'=>r = .returned (.bool true)∧Ext w w':=by
 skip
 refine Sx.enter Tryz.func10 Tryz.ntmps10 fun ac S=>Sx.seqP fun _ κ1=>Sx.newp S 1 s.cells fun ac u b2 E3 hb4 S=>Sx.run S 1 [] [(2,.bool false)] fun ac S=>Sx.done<|κ1 _ _<|wp_seq_k fun _ κ5=>Sx.seqP fun _ κ6=>Sx.run S 1 [.mem 0 0] [(9,s.v)] fun ac S=>Sx.callv S 10 (few37_any ⟨(h.2.2.1.below S.E),fun n hn=>(h.2.2.2 n hn).below S.E⟩ 16) fun ac u E7 S=>Sx.runC S 6 [.mem 0 0] [(_,_,(!(!(s.few 16))),.bool s.key.valid)] [(16,.bool ((!(s.few 16))||(!s.key.valid)))] ⟨fun u hC g=>scValid_any (K:=20) (s:=s) ((few_ok2 (by simpa using g) h).1.below (Ext.trans' S.E hC)) (hg.below (Ext.trans' S.E hC)),trivial⟩ fun ac u E8 S=>Sx.done (κ6 _ _ ?_)
 refine Sx.cond S (fun hc9=>?_) (fun hc9=>?_)
 ·refine Sx.seqP fun _ κ10=>Sx.run S 1 [] [(17,.agg #[.int .i64 0,.int .i64 0,.int .u8 0,.int .u8 0,.int .u8 0,.int .u8 0,.slice none 0 0])] fun ac S=>Sx.callG S (some 18) (scChildren_any (K:=20) (s := .zero) (sceneD_zero_ok _) (hg.below S.E) (-1)) ?_
  rintro e u ⟨v,rfl,ho,E11⟩
  obtain⟨a9,c9,e9⟩:=Sx.own_shape ho
  rw[kids_zero]at e9
  replace e9:v = .slice a9 0 c9:=e9
  subst e9
  refine⟨_,rfl,E11,fun ac S=>?_⟩
  refine Sx.run S 3 [] [(21,.bool true)] fun ac S=>Sx.callGG S (some 22) (exampleHolds_any (hg.below S.E)) ?_
  rintro e u ⟨rfl,E12⟩
  refine⟨_,rfl,E12,fun ac S=>?_⟩
  refine Sx.run S 2 [] [(2,.bool true)] fun ac S=>Sx.done<|κ10 _ _<|Vp.rt ?_
  refine Sx.ret1 S Tryz.results10 ?_
  exact⟨rfl,S.E⟩
 ·refine wp_skip<|κ5 _ _<|Sx.seqP (fun _ κ13=>?_)
  have hcc:s.few 16=true∧s.key.valid=true:=by simpa using hc9
  obtain⟨hfew,hv⟩:=hcc
  have hs:=(few_ok2 hfew h).1
  have hsl:s.ns.length≤64:=valid_len hv
  obtain⟨a,cap,es⟩:∃a c,s.s = .slice a s.ns.length c:=⟨_,_,rfl⟩
  have hr:=h.2.2.1
  rw[es]at hr
  refine Sx.run S 1 [.mem 0 0] [(24,s.v)] fun ac S=>Sx.callG S (some 25) (scChildren_any (K:=20) (s:=s) (hs.below S.E) (hg.below S.E) (-1)) ?_
  rintro e u ⟨v,rfl,ho,E14⟩
  obtain⟨a9,c9,e9⟩:=Sx.own_shape ho
  replace e9:v = .slice a9 (s.key.kids (-1)).length c9:=e9
  rw[kidSum_zero hv]at e9
  subst e9
  refine⟨_,rfl,E14,fun ac S=>?_⟩
  refine Sx.run S 2 [] [(3,.int .i64 (((s.kidSum 0):Nat):Int))] fun ac S=>Sx.done<|κ13 _ _<|wp_seq_k fun _ κ15=>Sx.seqP fun _ κ16=>Sx.run S 1 [] [(4,.int .i64 0)] fun ac S=>Sx.done<|κ16 _ _<|wp_block ?_
  refine Vp.loop (ι:=Nat×Nat) (fun p a' w'=>p.1≤s.ns.length∧(p.2=s.kidSum p.1)∧Sx.St w a' w' 149 [(0,s.v),(1,.pointer (some ⟨b2,0,none⟩)),(2,.bool false),(3,.int .i64 ((p.2:Nat):Int)),(4,.int .i64 ((p.1:Nat):Int))] [(b2,s.cells)] []) (fun p=>s.ns.length-p.1) (0,(s.kidSum 0)) ⟨Nat.zero_le _,rfl,(S.sub [(0,s.v),(1,.pointer (some ⟨b2,0,none⟩)),(2,.bool false),(3,.int .i64 (((s.kidSum 0):Nat):Int)),(4,.int .i64 ((0:Nat):Int))]).noviews⟩ ?_
  rintro⟨k,m⟩ ac u hI
  try dsimp only at hI
  obtain⟨hk,hR,S⟩:=hI
  have hRm:=hR
  refine wp_seq_k fun _ κ17=>Sx.seqP fun _ κ18=>Sx.run S 5 [.mem 0 6,.re 29 s.s (.slice a s.ns.length cap)] [(31,.bool (decide (((k:Nat):Int)<((s.ns.length:Nat):Int))))] (hk:=⟨es,trivial⟩) fun ac S=>Sx.done (κ18 _ _ ?_)
  refine Sx.cond S (fun hc19=>?_) (fun hc19=>?_)
  ·refine wp_skip<|κ17 _ _<|wp_seq_k fun _ κ20=>wp_block<|Sx.seqP fun _ κ21=>Sx.run S 2 [.mem 0 0] [(34,s.v),(35,.int .i64 ((k:Nat):Int))] fun ac S=>Sx.callG S (some 36) (scAncestors_any (K:=20) (s:=s) (hs.below S.E) (hg.below S.E) ((k:Nat):Int)) ?_
   rintro e u ⟨v,rfl,ho,E22⟩
   have hi0:k<s.ns.length:=by have:=of_decide_eq_true hc19; omega
   obtain⟨L,hLe⟩:∃L,s.key.anc ((k:Nat):Int)=L:=⟨_,rfl⟩
   rw[hLe]at ho
   have hI:=inv_all hv hi0
   rw[hLe]at hI
   have hLl:=hI.len
   have hLp:=hI.ne
   have hLd:=hI.dep
   have hL:=rowN_of_own ho
   obtain⟨a7,c7,e7⟩:=hL.shape
   subst e7
   refine⟨_,rfl,E22,fun ac S=>?_⟩
   refine Sx.run S 1 [] [(5,.slice a7 L.length c7)] fun ac S=>Sx.done<|κ21 _ _<|wp_seq_k fun _ κ23=>wp_seq_k (fun _ κ24=>?_)
   have S0:=S
   have hb1:=(S.bx 0).1
   have hr1:=(S.bx 0).range 0 7 rfl
   obtain⟨u1,hu1⟩:∃z:World,z=u:=⟨_,rfl⟩
   subst hu1
   have hs:=hs.below S.E
   have hg:=hg.below S.E
   have hr:=hr.below S.E
   have S:=S.re
   have S:=S.noviews
   have S:=S.view0 hb1 hr1
   have lt31:k<s.ns.length:=hi0
   obtain⟨b26,o27,c28,hv,hb33,hr29⟩:=Vp.rowN_range2 hr (fun _=>rfl) (k) lt31
   simp only[Value.slice.injEq,true_and]at hv
   obtain⟨rfl,rfl⟩:=hv
   obtain⟨x32,hx30⟩:∃z,s.ns[k]=z:=⟨_,rfl⟩
   rw[hx30]at hr29
   rw[hx30]at hI
   have hLl:=hI.len
   have hLd:=hI.dep
   have S:=S.view0 hb33 hr29
   have lt39:L.length-1<L.length:=by omega
   obtain⟨b34,o35,c36,hv,hb41,hr37⟩:=Vp.rowN_range2 hL (fun _=>rfl) (L.length-1) lt39
   simp only[Value.slice.injEq,true_and]at hv
   obtain⟨rfl,rfl⟩:=hv
   obtain⟨y40,hx38⟩:∃z,L[L.length-1]=z:=⟨_,rfl⟩
   rw[hx38]at hr37
   have S:=S.view0 hb41 hr37
   have lt47:0<L.length:=by omega
   obtain⟨b42,o43,c44,hv,hb49,hr45⟩:=Vp.rowN_range2 hL (fun _=>rfl) (0) lt47
   simp only[Value.slice.injEq,Option.some.injEq,Addr.mk.injEq,true_and,and_true]at hv
   obtain⟨⟨rfl,rfl⟩,rfl⟩:=hv
   obtain⟨y48,hx46⟩:∃z,L[0]=z:=⟨_,rfl⟩
   rw[hx46]at hr45
   have S:=S.view0 hb49 hr45
   refine Sx.draw S 49 [.re 39 (.bool ((((L.length:Nat):Int))==0)) (.bool false),.mem 3 6,.re 44 s.s (.slice (some ⟨b26,o27,none⟩) s.ns.length cap),.idx k s.ns.length,.mem 2 2,Sx.kw 49 (x32.depth+1),.re 50 (.bool ((((L.length:Nat):Int)) != (x32.depth+1))) (.bool false),.re 56 (.int .i64 (IntKind.i64.wrap (((L.length:Nat):Int)-1))) (.int .i64 ((L.length-1:Nat):Int)),.idx (L.length-1) L.length,.mem 1 0,.re 60 (.bool ((((y40:Nat):Int)) != ((k:Nat):Int))) (.bool false),.mem 3 0,.idx 0 L.length,.mem 0 0,.mem 3 0,.re 75 (.bool (decide ((s.key.endOf ((k:Nat):Int))≤((k:Nat):Int)))) (.bool false),.mem 3 0,.mem 3 6,.re 82 s.s (.slice (some ⟨b26,o27,none⟩) s.ns.length cap),.re 84 (.bool (decide (((s.ns.length:Nat):Int)<(s.key.endOf ((k:Nat):Int))))) (.bool false)] [(_,_,true,.int .i64 (-1)),(_,_,true,.int .i64 (s.key.endOf ((k:Nat):Int))),(_,_,true,.int .i64 (s.key.endOf ((k:Nat):Int)))] [(85,.bool false)] ⟨fun u hC g=>calls_as (scParOf_any (K:=20) (s:=s) (hs.below (Ext.trans' S.E hC)) (hg.below (Ext.trans' S.E hC)) ((y48:Nat):Int)) (congrArg (Value.int .i64) (by have:=hI.head hLp; rw[hx46]at this; exact this)),fun u hC g=>scEndOf_any (K:=20) (s:=s) (hs.below (Ext.trans' S.E hC)) (hg.below (Ext.trans' S.E hC)) ((k:Nat):Int),fun u hC g=>scEndOf_any (K:=20) (s:=s) (hs.below (Ext.trans' S.E hC)) (hg.below (Ext.trans' S.E hC)) ((k:Nat):Int),trivial⟩ (hk:=⟨(congrArg Value.bool (by rw[beq_eq_false_iff_ne]; omega)),es,lt31,Sx.kw_ok (by omega),(congrArg Value.bool (by rw[hLl]; simp)),(Sx.wrap_pred (by omega) (by omega)),lt39,(congrArg Value.bool (by have:=hI.last (by omega); rw[hx38]at this; rw[this]; simp)),lt47,(congrArg Value.bool (decide_eq_false (by have:=hI.lo; omega))),es,(congrArg Value.bool (decide_eq_false (by have:=hI.hi; omega))),trivial⟩) fun ac u E25 S=>Sx.done<|κ24 _ _<|Sx.condF S<|wp_skip<|κ23 _ _<|wp_seq_k fun _ κ50=>Sx.seqP fun _ κ51=>Sx.run S 1 [] [(6,.int .i64 1)] fun ac S=>Sx.done<|κ51 _ _<|wp_block ?_
   refine Vp.loop (ι:=Nat) (fun p a' w'=>(1≤p∧p≤L.length)∧Sx.St u1 a' w' 149 [(0,s.v),(1,.pointer (some ⟨b2,0,none⟩)),(2,.bool false),(3,.int .i64 ((m:Nat):Int)),(4,.int .i64 ((k:Nat):Int)),(5,.slice (some ⟨b34,o35,none⟩) L.length c7),(6,.int .i64 ((p:Nat):Int))] [] []) (fun p=>L.length-p) (1) ⟨⟨Nat.le_refl _,hLp⟩,(S.sub [(0,s.v),(1,.pointer (some ⟨b2,0,none⟩)),(2,.bool false),(3,.int .i64 ((m:Nat):Int)),(4,.int .i64 ((k:Nat):Int)),(5,.slice (some ⟨b34,o35,none⟩) L.length c7),(6,.int .i64 ((1:Nat):Int))]).noviews⟩ ?_
   rintro j ac u hI
   try dsimp only at hI
   obtain⟨hR,S⟩:=hI
   have S:=S.view0 hb1 hr1
   refine wp_seq_k fun _ κ52=>Sx.seqP fun _ κ53=>Sx.run S 4 [] [(89,.bool (decide (((j:Nat):Int)<((L.length:Nat):Int))))] fun ac S=>Sx.done (κ53 _ _ ?_)
   refine Sx.cond S (fun hc54=>?_) (fun hc54=>?_)
   ·refine wp_skip<|κ52 _ _<|wp_seq_k fun _ κ55=>wp_block<|wp_seq_k (fun _ κ56=>?_)
    have lt63:j<L.length:=by have:=of_decide_eq_true hc54; omega
    obtain⟨b58,o59,c60,hv,hb65,hr61⟩:=Vp.rowN_range2 hL (fun _=>rfl) (j) lt63
    simp only[Value.slice.injEq,Option.some.injEq,Addr.mk.injEq,true_and,and_true]at hv
    obtain⟨⟨rfl,rfl⟩,rfl⟩:=hv
    obtain⟨y64,hx62⟩:∃z,L[j]=z:=⟨_,rfl⟩
    rw[hx62]at hr61
    have S:=S.view0 hb65 hr61
    have lt71:j-1<L.length:=by have:=of_decide_eq_true hc54; omega
    obtain⟨b66,o67,c68,hv,hb73,hr69⟩:=Vp.rowN_range2 hL (fun _=>rfl) (j-1) lt71
    simp only[Value.slice.injEq,Option.some.injEq,Addr.mk.injEq,true_and,and_true]at hv
    obtain⟨⟨rfl,rfl⟩,rfl⟩:=hv
    obtain⟨y72,hx70⟩:∃z,L[j-1]=z:=⟨_,rfl⟩
    rw[hx70]at hr69
    have S:=S.view0 hb73 hr69
    refine Sx.draw S 28 [.mem 2 0,.idx j L.length,.mem 1 0,.re 100 (.int .i64 (IntKind.i64.wrap (((j:Nat):Int)-1))) (.int .i64 ((j-1:Nat):Int)),.idx (j-1) L.length,.mem 0 0,.re 103 (.bool (((s.key.parOf ((y64:Nat):Int))) != ((y72:Nat):Int))) (.bool false),.mem 2 0,.re 108 (.int .i64 (IntKind.i64.wrap (((j:Nat):Int)-1))) (.int .i64 ((j-1:Nat):Int)),.idx (j-1) L.length,.mem 0 0,.mem 2 0,.idx j L.length,.mem 1 0,.re 118 (.bool (decide ((s.key.endOf ((y72:Nat):Int))<(s.key.endOf ((y64:Nat):Int))))) (.bool false)] [(_,_,true,.int .i64 (s.key.parOf ((y64:Nat):Int))),(_,_,true,.int .i64 (s.key.endOf ((y72:Nat):Int))),(_,_,true,.int .i64 (s.key.endOf ((y64:Nat):Int)))] [(119,.bool false)] ⟨fun u hC g=>scParOf_any (K:=20) (s:=s) (hs.below (Ext.trans' S.E hC)) (hg.below (Ext.trans' S.E hC)) ((y64:Nat):Int),fun u hC g=>scEndOf_any (K:=20) (s:=s) (hs.below (Ext.trans' S.E hC)) (hg.below (Ext.trans' S.E hC)) ((y72:Nat):Int),fun u hC g=>scEndOf_any (K:=20) (s:=s) (hs.below (Ext.trans' S.E hC)) (hg.below (Ext.trans' S.E hC)) ((y64:Nat):Int),trivial⟩ (hk:=⟨lt63,(Sx.wrap_pred (by omega) (by omega)),lt71,(congrArg Value.bool (by have:=(hI.next (j-1) (by have:=lt63; omega)).1; simp only[Nat.sub_add_cancel hR.1,hx62,hx70]at this; rw[this]; simp)),(Sx.wrap_pred (by omega) (by omega)),lt71,lt63,(congrArg Value.bool (decide_eq_false (by have:=(hI.next (j-1) (by have:=lt63; omega)).2; simp only[Nat.sub_add_cancel hR.1,hx62,hx70]at this; omega))),trivial⟩) fun ac u E57 S=>Sx.done<|κ56 _ _<|Sx.condF S<|wp_skip<|κ55 _ _<|Vp.region<|Sx.run S 3 [.re 91 (.int .i64 (IntKind.i64.wrap (((j:Nat):Int)+1))) (.int .i64 (((j+1):Nat):Int))] [(6,.int .i64 (((j+1):Nat):Int))] (hk:=⟨Sx.wrap_succ (by omega),trivial⟩) fun ac S=>Sx.done ?_
    show ∃i',_∧_
    have hcj:j<L.length:=by have:=of_decide_eq_true hc54; omega
    exact⟨(j+1),⟨⟨by omega,by omega⟩,(S.sub [(0,s.v),(1,.pointer (some ⟨b2,0,none⟩)),(2,.bool false),(3,.int .i64 ((m:Nat):Int)),(4,.int .i64 ((k:Nat):Int)),(5,.slice (some ⟨b34,o35,none⟩) L.length c7),(6,.int .i64 (((j+1):Nat):Int))]).noviews⟩,by show L.length-(j+1)<L.length-j; omega⟩
   ·refine wp_exit<|κ50 _ _<|Sx.seqP fun _ κ74=>Sx.run S 2 [.mem 0 0] [(120,s.v),(121,.int .i64 ((k:Nat):Int))] fun ac S=>Sx.callG S (some 122) (scChildren_any (K:=20) (s:=s) (hs.below S.E) (hg.below S.E) ((k:Nat):Int)) ?_
    rintro e u ⟨v,rfl,ho,E75⟩
    obtain⟨M,hMe⟩:∃M,s.key.kids ((k:Nat):Int)=M:=⟨_,rfl⟩
    rw[hMe]at ho
    have hMl:M.length≤s.ns.length:=hMe▸kids_le
    have hM:=rowN_of_own ho
    obtain⟨a8,c8,e8⟩:=hM.shape
    subst e8
    refine⟨_,rfl,E75,fun ac S=>?_⟩
    refine Sx.run S 1 [] [(7,.slice a8 M.length c8)] fun ac S=>Sx.done<|κ74 _ _<|wp_seq_k fun _ κ76=>Sx.seqP (fun _ κ77=>?_)
    obtain⟨u2,hu2⟩:∃z:World,z=u:=⟨_,rfl⟩
    subst hu2
    have h12:=S.E
    have hr1:=Vp.range_ext hr1 hb1 h12
    have hb1:=Nat.lt_of_lt_of_le hb1 h12.size
    have hs:=hs.below S.E
    have hg:=hg.below S.E
    have hr:=hr.below S.E
    have S:=S.re
    have S:=S.noviews
    have S:=S.view0 hb1 hr1
    refine Sx.run S 1 [] [(8,.int .i64 0)] fun ac S=>Sx.done<|κ77 _ _<|wp_block ?_
    refine Vp.loop (ι:=Nat) (fun p a' w'=>p≤M.length∧(True)∧Sx.St u2 a' w' 149 [(0,s.v),(1,.pointer (some ⟨b2,0,none⟩)),(2,.bool false),(3,.int .i64 ((m:Nat):Int)),(4,.int .i64 ((k:Nat):Int)),(5,.slice (some ⟨b34,o35,none⟩) L.length c7),(6,.int .i64 ((j:Nat):Int)),(7,.slice a8 M.length c8),(8,.int .i64 ((p:Nat):Int))] [] []) (fun p=>M.length-p) (0) ⟨Nat.zero_le _,trivial,(S.sub [(0,s.v),(1,.pointer (some ⟨b2,0,none⟩)),(2,.bool false),(3,.int .i64 ((m:Nat):Int)),(4,.int .i64 ((k:Nat):Int)),(5,.slice (some ⟨b34,o35,none⟩) L.length c7),(6,.int .i64 ((j:Nat):Int)),(7,.slice a8 M.length c8),(8,.int .i64 ((0:Nat):Int))]).noviews⟩ ?_
    rintro q ac u hI
    try dsimp only at hI
    obtain⟨hk,hR,S⟩:=hI
    have S:=S.view0 hb1 hr1
    refine wp_seq_k fun _ κ78=>Sx.seqP fun _ κ79=>Sx.run S 4 [] [(126,.bool (decide (((q:Nat):Int)<((M.length:Nat):Int))))] fun ac S=>Sx.done (κ79 _ _ ?_)
    refine Sx.cond S (fun hc80=>?_) (fun hc80=>?_)
    ·refine wp_skip<|κ78 _ _<|wp_seq_k fun _ κ81=>wp_block<|wp_seq_k (fun _ κ82=>?_)
     have lt89:q<M.length:=by have:=of_decide_eq_true hc80; omega
     obtain⟨b84,o85,c86,hv,hb91,hr87⟩:=Vp.rowN_range2 hM (fun _=>rfl) (q) lt89
     simp only[Value.slice.injEq,true_and]at hv
     obtain⟨rfl,rfl⟩:=hv
     obtain⟨z90,hx88⟩:∃z,M[q]=z:=⟨_,rfl⟩
     rw[hx88]at hr87
     have hky:s.key.parOf ((z90:Nat):Int)=((k:Nat):Int):=hI.kid _ (by rw[hMe,←hx88]; exact List.getElem_mem _)
     have S:=S.view0 hb91 hr87
     refine Sx.draw S 8 [.mem 1 0,.idx q M.length,.mem 0 0,.re 136 (.bool (((s.key.parOf ((z90:Nat):Int))) != ((k:Nat):Int))) (.bool false)] [(_,_,true,.int .i64 (s.key.parOf ((z90:Nat):Int)))] [(136,.bool false)] ⟨fun u hC g=>scParOf_any (K:=20) (s:=s) (hs.below (Ext.trans' S.E hC)) (hg.below (Ext.trans' S.E hC)) ((z90:Nat):Int),trivial⟩ (hk:=⟨lt89,(congrArg Value.bool (by rw[hky]; simp)),trivial⟩) fun ac u E83 S=>Sx.done<|κ82 _ _<|Sx.condF S<|wp_skip<|κ81 _ _<|Vp.region<|Sx.run S 3 [.re 128 (.int .i64 (IntKind.i64.wrap (((q:Nat):Int)+1))) (.int .i64 (((q+1):Nat):Int))] [(8,.int .i64 (((q+1):Nat):Int))] (hk:=⟨Sx.wrap_succ (by omega),trivial⟩) fun ac S=>Sx.done ?_
     show ∃i',_∧_
     exact⟨(q+1),⟨by omega,trivial,(S.sub [(0,s.v),(1,.pointer (some ⟨b2,0,none⟩)),(2,.bool false),(3,.int .i64 ((m:Nat):Int)),(4,.int .i64 ((k:Nat):Int)),(5,.slice (some ⟨b34,o35,none⟩) L.length c7),(6,.int .i64 ((j:Nat):Int)),(7,.slice (some ⟨b84,o85,none⟩) M.length c8),(8,.int .i64 (((q+1):Nat):Int))]).noviews⟩,by show _-_<_-_; omega⟩
    ·refine wp_exit<|κ76 _ _ ?_
     have S:=S0.back S.noviews h12
     have hml:m≤s.ns.length:=by rw[hRm]; exact kidSum_le
     refine Vp.region<|Sx.run S 5 [.re 140 (.int .i64 (IntKind.i64.wrap (((m:Nat):Int)+((M.length:Nat):Int)))) (.int .i64 ((m+M.length:Nat):Int))] [(3,.int .i64 ((m+M.length:Nat):Int))] (hk:=⟨(Sx.wrap_add (by omega)),trivial⟩) fun ac S=>Sx.done<|κ20 _ _<|Vp.region<|Sx.run S 3 [.re 33 (.int .i64 (IntKind.i64.wrap (((k:Nat):Int)+1))) (.int .i64 (((k+1):Nat):Int))] [(4,.int .i64 (((k+1):Nat):Int))] (hk:=⟨Sx.wrap_succ (by omega),trivial⟩) fun ac S=>Sx.done ?_
     show ∃i',_∧_
     exact⟨((k+1),(m+M.length)),⟨by omega,(by rw[hRm,←hMe]; exact kidSum_succ hv hi0),(S.sub [(0,s.v),(1,.pointer (some ⟨b2,0,none⟩)),(2,.bool false),(3,.int .i64 (((m+M.length):Nat):Int)),(4,.int .i64 (((k+1):Nat):Int))]).noviews⟩,by show _-_<_-_; omega⟩
  ·refine wp_exit<|κ15 _ _<|Sx.seqP (fun _ κ92=>?_)
   have hkk:=of_decide_eq_false hc19
   obtain rfl:k=s.ns.length:=by omega
   have hmm:m=s.ns.length:=hR.trans kidSum_all
   refine Sx.run S 6 [.mem 0 6,.re 143 s.s (.slice a s.ns.length cap),.re 145 (.bool ((((m:Nat):Int))==((s.ns.length:Nat):Int))) (.bool true)] [(146,.bool true)] (hk:=⟨es,(congrArg Value.bool (by rw[hmm]; simp)),trivial⟩) fun ac S=>Sx.callGG S (some 147) (exampleHolds_any (hg.below S.E)) ?_
   rintro e u ⟨rfl,E93⟩
   refine⟨_,rfl,E93,fun ac S=>?_⟩
   refine Sx.run S 2 [] [(2,.bool true)] fun ac S=>Sx.done<|κ92 _ _<|Vp.rt ?_
   refine Sx.ret1 S Tryz.results10 ?_
   exact⟨rfl,S.E⟩
end Go.Proofs.YtfmkkemfhjkajaaGreatDoor
