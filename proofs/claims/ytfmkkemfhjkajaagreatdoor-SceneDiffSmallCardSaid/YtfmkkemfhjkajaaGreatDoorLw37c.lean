/- The laws SceneDiffApply and SceneDiffSmall. -/
import Derived.Test.YtfmkkemfhjkajaaGreatDoorDfW2
import Derived.Test.YtfmkkemfhjkajaaGreatDoorPk44
set_option maxHeartbeats 3200000
set_option maxRecDepth 100000
namespace Go.Proofs.YtfmkkemfhjkajaaGreatDoor
open Go.RowKit
variable{α:Type}{K:Nat}
set_option linter.unusedVariables false
theorem few_ok3{w:World}{s:SceneD}{n:Int}(h:s.few n=true)(ho:s.ok w):SceneOk 20 w s∧(∀n∈s.ns,n.lim):=⟨(few37_ok h ho.1 ho.2.1 ho.2.2).1,(few37_ok h ho.1 ho.2.1 ho.2.2).2.1⟩
theorem df_err1{s t:SceneD}{es:List EditD}{code:Int}(h:(es.map EditD.key,code)=diffE s.key t.key)(hv:s.key.valid=false∨t.key.valid=false):code=18∧es.length=0:=by
 unfold diffE at h
 rw[if_pos hv]at h
 obtain⟨h1,h2⟩:=Prod.mk.inj h
 exact⟨h2,by simpa using congrArg List.length h1⟩
theorem df_err2{s t:SceneD}{es:List EditD}{code:Int}(h:(es.map EditD.key,code)=diffE s.key t.key)(hv:¬(s.key.valid=false∨t.key.valid=false))(hw:s.w≠t.w∨s.h≠t.h):code=2∧es.length=0:=by
 unfold diffE at h
 rw[if_neg hv,if_pos (show s.key.w≠t.key.w∨s.key.h≠t.key.h from hw)]at h
 obtain⟨h1,h2⟩:=Prod.mk.inj h
 exact⟨h2,by simpa using congrArg List.length h1⟩
theorem df_err0{s t:SceneD}{es:List EditD}{code:Int}(h:(es.map EditD.key,code)=diffE s.key t.key)(hv:¬(s.key.valid=false∨t.key.valid=false))(hw:¬(s.w≠t.w∨s.h≠t.h)):code=0∧es.map EditD.key=diffK s.key t.key:=by
 unfold diffE at h
 rw[if_neg hv,if_neg (show ¬(s.key.w≠t.key.w∨s.key.h≠t.key.h)from hw)]at h
 obtain⟨h1,h2⟩:=Prod.mk.inj h
 exact⟨h2,h1⟩
theorem wh_eq{s t:SceneD}(h:¬(s.w≠t.w∨s.h≠t.h)):s.key.w=t.key.w∧s.key.h=t.key.h:=by
 have h2:s.w=t.w∧s.h=t.h:=by omega
 exact h2
theorem all_diff{s t r:SceneD}{es:List EditD}{n code:Int}(hv:s.key.valid=true)(hv':t.key.valid=true)(hw:¬(s.w≠t.w∨s.h≠t.h))(hk:es.map EditD.key=diffK s.key t.key)
  (h:s.key.valid=false∧(r.key,n,code)=(SceneK.zero,0,18)∨s.key.valid=true∧(r.key,n,code)=applyAllK s.key (es.map EditD.key) 0):r.key=t.key∧n=((es.length:Nat):Int)∧code=0:=by
 rcases h with ⟨h,_⟩ | ⟨_,h⟩
 ·rw[hv]at h; cases h
 ·rw[hk,diff_runs hv hv' (wh_eq hw).1 (wh_eq hw).2 0]at h
  obtain⟨h1,h2⟩:=Prod.mk.inj h
  obtain⟨h2,h3⟩:=Prod.mk.inj h2
  have:=congrArg List.length hk
  rw[List.length_map]at this
  exact⟨h1,by rw[h2,this,Nat.zero_add],h3⟩
theorem df_nil{s t:SceneD}{es:List EditD}(hv:s.key.valid=true)(hv':t.key.valid=true)(hw:¬(s.w≠t.w∨s.h≠t.h))(hk:es.map EditD.key=diffK s.key t.key):((((es.length:Nat):Int))==0)=decide (s.key=t.key):=by
 have h:=diff_nil hv hv' (wh_eq hw).1 (wh_eq hw).2
 rw[←hk,List.map_eq_nil_iff]at h
 rw[Bool.eq_iff_iff,beq_iff_eq,decide_eq_true_eq,←h]
 constructor
 ·intro h2; exact List.eq_nil_of_length_eq_zero (by omega)
 ·intro h2; rw[h2]; rfl
theorem df_len{s t:SceneD}{es:List EditD}(hv:s.key.valid=true)(hk:es.map EditD.key=diffK s.key t.key):es.length≤s.ns.length+t.ns.length+1:=by
 have h:=diff_length (b:=t.key) hv
 have:=congrArg List.length hk
 rw[List.length_map]at this
 rw[←this,show s.key.ns.length=s.ns.length from List.length_map ..,show t.key.ns.length=t.ns.length from List.length_map ..]at h
 exact h
/-- What DiffSmall asks of the edits. -/
theorem df_last{s t:SceneD}{e:EditD}{es:List EditD}(h:applyK s.key e.key=(t.key,0))(hk:es.map EditD.key=diffK s.key t.key)(h1:e.kind=1)(h2:e.node.depth=0)(h3:e.index=((s.ns.length:Nat):Int)):es.length=1∧∀d∈es,d.kind=e.kind:=by
 obtain⟨d,hd,he⟩:=(diff_small h).2 h1 h2 (by rw[show s.key.ns.length=s.ns.length from List.length_map ..]; exact h3)
 rw[←hk]at hd
 obtain⟨x,rfl,hx⟩:=List.map_eq_singleton_iff.1 hd
 exact⟨rfl,fun y hy=>by rw[List.mem_singleton.1 hy]; rw[←hx]at he; exact he⟩
theorem df_other{s t:SceneD}{e:EditD}{es:List EditD}(h:applyK s.key e.key=(t.key,0))(hk:es.map EditD.key=diffK s.key t.key)(h1:e.kind=5∨e.kind=4):es.length≤1∧∀d∈es,d.kind=e.kind:=by
 obtain⟨h2,h3⟩:=(diff_small h).1 h1
 rw[←hk]at h2 h3
 exact⟨by simpa using h2,fun d hd=>h3 d.key (List.mem_map.2 ⟨d,hd,rfl⟩)⟩
theorem sceneDiffApply_any{w:World}{s t:SceneD}(h:s.ok w)(h':t.ok w)(hg:GlobOk w) :
  Calls Tryz.prog 13 #[s.v,t.v] w fun r w'=>r = .returned (.bool true)∧Ext w w':=by
 skip
 refine Sx.enter Tryz.func13 Tryz.ntmps13 fun ac S=>Sx.seqP fun _ κ1=>Sx.newp S 2 s.cells fun ac u b2 E3 hb4 S=>Sx.newp S 3 t.cells fun ac u b5 E6 hb7 S=>Sx.run S 1 [] [(4,.bool false)] fun ac S=>Sx.done<|κ1 _ _<|wp_seq_k fun _ κ8=>Sx.seqP fun _ κ9=>Sx.run S 1 [.mem 1 0] [(10,s.v)] fun ac S=>Sx.callv S 11 (few37_any ⟨(h.2.2.1.below S.E),fun n hn=>(h.2.2.2 n hn).below S.E⟩ 12) fun ac u E10 S=>Sx.runC S 6 [.mem 0 0] [(_,_,(!(!(s.few 12))),.bool (t.few 12))] [(17,.bool ((!(s.few 12))||(!(t.few 12))))] ⟨fun u hC g=>few37_any ⟨(h'.2.2.1.below (Ext.trans' S.E hC)),fun n hn=>(h'.2.2.2 n hn).below (Ext.trans' S.E hC)⟩ 12,trivial⟩ fun ac u E11 S=>Sx.done (κ9 _ _ ?_)
 refine Sx.cond S (fun hc12=>?_) (fun hc12=>?_)
 ·refine Sx.seqP fun _ κ13=>Sx.callv S 18 (exampleHolds_any (hg.below S.E)) fun ac u E14 S=>Sx.run S 1 [] [(4,.bool true)] fun ac S=>Sx.done<|κ13 _ _<|Vp.rt ?_
  refine Sx.ret1 S Tryz.results13 ?_
  exact⟨rfl,S.E⟩
 ·refine wp_skip<|κ8 _ _<|Sx.seqP (fun _ κ15=>?_)
  have hcc:s.few 12=true∧t.few 12=true:=by simpa using hc12
  have hs:=few_ok3 hcc.1 h
  have ht:=few_ok3 hcc.2 h'
  refine Sx.run S 2 [.mem 1 0,.mem 0 0] [(20,s.v),(21,t.v)] fun ac S=>Sx.callG S (some 22) (scDiff_any (K:=20) (hs.1.below S.E) (ht.1.below S.E) (hg.below S.E) ht.2 (by decide) (by decide)) ?_
  rintro e u ⟨v,es,code,rfl,hown,hfit,hkey,hlen,E16⟩
  obtain⟨a5,c5,e5⟩:=Sx.own_shape hown.row
  subst e5
  refine⟨_,rfl,E16,fun ac S=>?_⟩
  refine Sx.run S 5 [] [(5,.slice a5 es.length c5),(6,.int .i64 code)] fun ac S=>Sx.done<|κ15 _ _<|wp_seq_k fun _ κ17=>Sx.seqP fun _ κ18=>Sx.run S 1 [.mem 1 0] [(25,s.v)] fun ac S=>Sx.callv S 26 (scValid_any (K:=20) (s:=s) (hs.1.below S.E) (hg.below S.E)) fun ac u E19 S=>Sx.runC S 6 [.mem 0 0] [(_,_,(!(!s.key.valid)),.bool t.key.valid)] [(32,.bool ((!s.key.valid)||(!t.key.valid)))] ⟨fun u hC g=>scValid_any (K:=20) (s:=t) (ht.1.below (Ext.trans' S.E hC)) (hg.below (Ext.trans' S.E hC)),trivial⟩ fun ac u E20 S=>Sx.done (κ18 _ _ ?_)
  refine Sx.cond S (fun hc21=>?_) (fun hc21=>?_)
  ·refine Sx.seqP (fun _ κ22=>?_)
   obtain⟨hcd,hel⟩:=df_err1 hkey (by simpa using hc21)
   refine Sx.run S 8 [.re 34 (.bool ((code)==18)) (.bool true),.re 38 (.bool ((((es.length:Nat):Int))==0)) (.bool true)] [(40,.bool true)] (hk:=⟨(congrArg Value.bool (by rw[hcd]; rfl)),(congrArg Value.bool (by rw[hel]; rfl)),trivial⟩) fun ac S=>Sx.callGG S (some 41) (exampleHolds_any (hg.below S.E)) ?_
   rintro e u ⟨rfl,E23⟩
   refine⟨_,rfl,E23,fun ac S=>?_⟩
   refine Sx.run S 2 [] [(4,.bool true)] fun ac S=>Sx.done<|κ22 _ _<|Vp.rt ?_
   refine Sx.ret1 S Tryz.results13 ?_
   exact⟨rfl,S.E⟩
  ·refine wp_skip<|κ17 _ _<|wp_seq_k fun _ κ24=>Sx.seqP (fun _ κ25=>?_)
   have hvn:¬(s.key.valid=false∨t.key.valid=false):=by have:=hc21; simp at this; simp[this]
   have hvs:s.key.valid=true:=by have:=hc21; simp at this; exact this.1
   have hvt:t.key.valid=true:=by have:=hc21; simp at this; exact this.2
   refine Sx.run S 12 [.mem 1 0,.mem 0 0,.mem 1 1,.mem 0 1] [(54,.bool (((s.w) != t.w)||((s.h) != t.h)))] fun ac S=>Sx.done (κ25 _ _ ?_)
   refine Sx.cond S (fun hc26=>?_) (fun hc26=>?_)
   ·refine Sx.seqP (fun _ κ27=>?_)
    obtain⟨hcd,hel⟩:=df_err2 hkey hvn (by simpa using hc26)
    refine Sx.run S 8 [.re 56 (.bool ((code)==2)) (.bool true),.re 60 (.bool ((((es.length:Nat):Int))==0)) (.bool true)] [(62,.bool true)] (hk:=⟨(congrArg Value.bool (by rw[hcd]; rfl)),(congrArg Value.bool (by rw[hel]; rfl)),trivial⟩) fun ac S=>Sx.callGG S (some 63) (exampleHolds_any (hg.below S.E)) ?_
    rintro e u ⟨rfl,E28⟩
    refine⟨_,rfl,E28,fun ac S=>?_⟩
    refine Sx.run S 2 [] [(4,.bool true)] fun ac S=>Sx.done<|κ27 _ _<|Vp.rt ?_
    refine Sx.ret1 S Tryz.results13 ?_
    exact⟨rfl,S.E⟩
   ·refine wp_skip<|κ24 _ _<|Sx.seqP (fun _ κ29=>?_)
    have hwh:¬(s.w≠t.w∨s.h≠t.h):=by have:=hc26; simp at this; simp[this]
    obtain⟨hcd,hkd⟩:=df_err0 hkey hvn hwh
    have hdl:=df_len hvs hkd
    have hsl:=valid_len hvs
    have htl:=valid_len hvt
    refine Sx.run S 2 [.mem 1 0] [(66,s.v),(67,.slice a5 es.length c5)] fun ac S=>Sx.callG S (some 68) (scApplyAll_any (K:=20) (hs.1.below S.E) (hg.below S.E) (EdsOwn.is ((EdsOwn.ext hown (Ext.trans' E19 E20))) hfit) hs.2 (fun e he=>(hfit e he).2.2.2.2.2)) ?_
    rintro e u ⟨r,n,code2,rfl,hra,E30⟩
    obtain⟨hrk,rfl,rfl⟩:=all_diff hvs hvt hwh hkd hra.1
    refine⟨_,rfl,E30,fun ac S=>?_⟩
    refine Sx.run S 4 [] [(69,r.v),(70,.int .i64 ((es.length:Nat):Int)),(71,.int .i64 0)] fun ac S=>Sx.newp S 7 [.int .i64 0,.int .i64 0,.int .u8 0,.int .u8 0,.int .u8 0,.int .u8 0,.slice none 0 0] fun ac u b31 E32 hb33 S=>Sx.store S 0 (off:=0) (cs:=r.cells) rfl (fun u C34 S=>?_)
    have E35:=Sx.ext_ch (Ext.trans' E19 (Ext.trans' E20 (Ext.trans' E30 E32))) C34 (by have:=(Ext.trans' E19 (Ext.trans' E20 E30)).size; omega)
    have E36:=Sx.ext_ch E32 C34 (by omega)
    refine Sx.run S 2 [] [(8,.int .i64 ((es.length:Nat):Int)),(9,.int .i64 0)] fun ac S=>Sx.done<|κ29 _ _<|wp_seq_k fun _ κ37=>Sx.seqP fun _ κ38=>Sx.run S 15 [.re 73 (.bool ((code) != 0)) (.bool false),.re 82 (.bool ((((es.length:Nat):Int)) != ((es.length:Nat):Int))) (.bool false),.mem 0 0,.mem 1 0] [(84,.bool false),(85,r.v),(86,t.v)] (hk:=⟨(congrArg Value.bool (by rw[hcd]; rfl)),(congrArg Value.bool (by simp)),trivial⟩) fun ac S=>Sx.callGG S (some 87) (calls_as (scEqual_any (K:=20) (s:=r) (t:=t) ((SceneOk.below hra.2.2.1 E36)) (ht.1.below S.E)) (show Value.bool (decide (r.key=t.key)) = .bool true by rw[hrk]; simp)) ?_
    rintro e u ⟨rfl,E39⟩
    refine⟨_,rfl,E39,fun ac S=>?_⟩
    refine Sx.run S 15 [.mem 2 6,.mem 1 6,.re 99 (.int .i64 (IntKind.i64.wrap (((s.ns.length:Nat):Int)+((t.ns.length:Nat):Int)))) (.int .i64 ((s.ns.length+t.ns.length:Nat):Int)),.re 100 (.int .i64 (IntKind.i64.wrap (((s.ns.length+t.ns.length:Nat):Int)+1))) (.int .i64 (((s.ns.length+t.ns.length+1):Nat):Int)),.re 101 (.bool (decide ((((s.ns.length+t.ns.length+1):Nat):Int)<((es.length:Nat):Int)))) (.bool false)] [(102,.bool false)] (hk:=⟨(Sx.wrap_add (by omega)),Sx.wrap_succ (by omega),(congrArg Value.bool (decide_eq_false (by omega))),trivial⟩) fun ac S=>Sx.done<|κ38 _ _<|Sx.condF S<|wp_skip<|κ37 _ _<|Sx.seqP fun _ κ40=>Sx.run S 5 [.mem 2 0,.mem 1 0] [(105,.bool ((((es.length:Nat):Int))==0)),(106,s.v),(107,t.v)] fun ac S=>Sx.callv S 108 (scEqual_any (K:=20) (s:=s) (t:=t) (hs.1.below S.E) (ht.1.below S.E)) fun ac u E41 S=>Sx.run S 2 [.re 109 (.bool (((((es.length:Nat):Int))==0)==(decide (s.key=t.key)))) (.bool true)] [(110,.bool true)] (hk:=⟨(congrArg Value.bool (by rw[df_nil hvs hvt hwh hkd]; simp)),trivial⟩) fun ac S=>Sx.callGG S (some 111) (exampleHolds_any (hg.below S.E)) ?_
    rintro e u ⟨rfl,E42⟩
    refine⟨_,rfl,E42,fun ac S=>?_⟩
    refine Sx.run S 2 [] [(4,.bool true)] fun ac S=>Sx.done<|κ40 _ _<|Vp.rt ?_
    refine Sx.ret1 S Tryz.results13 ?_
    exact⟨rfl,S.E⟩
theorem with_wh'{s t:SceneD}{e:EditK}(h:applyK s.key e=(t.key,0)):s.key.valid=true∧t.key.valid=true∧t.w=s.w∧t.h=s.h:=by
 obtain⟨h1,-,l,-,h4,h5⟩:=applyK_ok h
 exact⟨h1,h5,congrArg SceneK.w h4,congrArg SceneK.h h4⟩
theorem sceneDiffSmall_any{w:World}{s:SceneD}{e:EditD}(h:s.ok w)(he:e.ok w)(hg:GlobOk w) :
  Calls Tryz.prog 12 #[s.v,e.v] w fun r w'=>r = .returned (.bool true)∧Ext w w':=by
 skip
 refine Sx.enter Tryz.func12 Tryz.ntmps12 fun ac S=>Sx.seqP fun _ κ1=>Sx.newp S 2 s.cells fun ac u b2 E3 hb4 S=>Sx.newp S 3 e.cells fun ac u b5 E6 hb7 S=>Sx.run S 1 [] [(4,.bool false)] fun ac S=>Sx.done<|κ1 _ _<|wp_seq_k fun _ κ8=>Sx.seqP fun _ κ9=>Sx.run S 1 [.mem 1 0] [(10,s.v)] fun ac S=>Sx.callv S 11 (few37_any ⟨(h.2.2.1.below S.E),fun n hn=>(h.2.2.2 n hn).below S.E⟩ 12) fun ac u E10 S=>Sx.runC S 7 [.mem 0 4] [(_,_,(!(!(s.few 12))),.bool e.node.small37)] [(18,.bool ((!(s.few 12))||(!e.node.small37)))] ⟨fun u hC g=>small37_any (he.2.2.2.2.below (Ext.trans' S.E hC)),trivial⟩ fun ac u E11 S=>Sx.done (κ9 _ _ ?_)
 refine Sx.cond S (fun hc12=>?_) (fun hc12=>?_)
 ·refine Sx.seqP fun _ κ13=>Sx.callv S 19 (exampleHolds_any (hg.below S.E)) fun ac u E14 S=>Sx.run S 1 [] [(4,.bool true)] fun ac S=>Sx.done<|κ13 _ _<|Vp.rt ?_
  refine Sx.ret1 S Tryz.results12 ?_
  exact⟨rfl,S.E⟩
 ·refine wp_skip<|κ8 _ _<|Sx.seqP (fun _ κ15=>?_)
  have hc0:s.few 12=true∧e.node.small37=true:=by simpa using hc12
  have hs:=few_ok3 hc0.1 h
  have heo:EditOk 20 w e∧e.node.lim:=⟨⟨he.1,he.2.1,he.2.2.1,he.2.2.2.1,(small37_ok hc0.2 he.2.2.2.2).1⟩,(small37_ok hc0.2 he.2.2.2.2).2⟩
  refine Sx.run S 2 [.mem 1 0,.mem 0 0] [(21,s.v),(22,e.v)] fun ac S=>Sx.callG S (some 23) (scApply_any (K:=20) (hs.1.below S.E) (hg.below S.E) (heo.1.below S.E) hs.2 heo.2) ?_
  rintro e u ⟨t,code,rfl,har,E16⟩
  refine⟨_,rfl,E16,fun ac S=>?_⟩
  refine Sx.run S 3 [] [(24,t.v),(25,.int .i64 code)] fun ac S=>Sx.newp S 5 [.int .i64 0,.int .i64 0,.int .u8 0,.int .u8 0,.int .u8 0,.int .u8 0,.slice none 0 0] fun ac u b17 E18 hb19 S=>Sx.store S 0 (off:=0) (cs:=t.cells) rfl (fun u C20 S=>?_)
  have E21:=Sx.ext_ch E18 C20 (by omega)
  refine Sx.run S 1 [] [(6,.int .i64 code)] fun ac S=>Sx.done<|κ15 _ _<|wp_seq_k fun _ κ22=>Sx.seqP fun _ κ23=>Sx.run S 2 [] [(27,.bool ((code) != 0))] fun ac S=>Sx.done (κ23 _ _ ?_)
  refine Sx.cond S (fun hc24=>?_) (fun hc24=>?_)
  ·refine Sx.seqP fun _ κ25=>Sx.callv S 28 (exampleHolds_any (hg.below S.E)) fun ac u E26 S=>Sx.run S 1 [] [(4,.bool true)] fun ac S=>Sx.done<|κ25 _ _<|Vp.rt ?_
   refine Sx.ret1 S Tryz.results12 ?_
   exact⟨rfl,S.E⟩
  ·refine wp_skip<|κ22 _ _<|Sx.seqP (fun _ κ27=>?_)
   have hcz:code=0:=by simpa using hc24
   have hap:applyK s.key e.key=(t.key,0):=by rw[←har.1,hcz]
   have hwt:=with_wh' hap
   refine Sx.run S 2 [.mem 2 0,.mem 0 0] [(30,s.v),(31,t.v)] fun ac S=>Sx.callG S (some 32) (scDiff_any (K:=20) (hs.1.below S.E) ((SceneOk.below har.2.2.1 E21)) (hg.below S.E) (fun n hn=>(har.2.2.2 n hn).2) (by decide) (by decide)) ?_
   rintro e u ⟨v,es,code2,rfl,hown,hfit,hkey,hlen,E28⟩
   obtain⟨a5,c5,e5⟩:=Sx.own_shape hown.row
   subst e5
   obtain⟨rfl,hkd⟩:=df_err0 hkey (by simp[hwt.1,hwt.2.1]) (by simp[hwt.2.2.1,hwt.2.2.2])
   refine⟨_,rfl,E28,fun ac S=>?_⟩
   refine Sx.run S 5 [] [(7,.slice a5 es.length c5),(8,.int .i64 0)] fun ac S=>Sx.done<|κ27 _ _<|wp_seq_k fun _ κ29=>Sx.seqP fun _ κ30=>Sx.run S 2 [] [(36,.bool false)] fun ac S=>Sx.done<|κ30 _ _<|Sx.condF S<|wp_skip<|κ29 _ _<|Sx.seqP fun _ κ31=>Sx.run S 18 [.mem 1 0,.mem 1 6,.mem 1 2,.mem 2 6] [(9,.bool ((((e.kind)==1)&&((e.node.depth)==0))&&((e.index)==((s.ns.length:Nat):Int))))] fun ac S=>Sx.done<|κ31 _ _<|wp_seq_k fun _ κ32=>Sx.seqP fun _ κ33=>Sx.run S 6 [] [(59,.bool (((((e.kind)==1)&&((e.node.depth)==0))&&((e.index)==((s.ns.length:Nat):Int)))&&((((es.length:Nat):Int)) != 1)))] fun ac S=>Sx.done (κ33 _ _ ?_)
   refine Sx.cond S (fun hc34=>?_) (fun hc34=>?_)
   ·refine Sx.seqP fun _ κ35=>Sx.run S 1 [] [(4,.bool false)] fun ac S=>Sx.done<|κ35 _ _<|Vp.rt ?_
    exfalso
    have hc:=hc34
    have hl:((e.kind=1∧e.node.depth=0)∧e.index=((s.ns.length:Nat):Int))∧¬(es.length=1):=by simp at hc; exact⟨hc.1,by omega⟩
    exact hl.2 (df_last hap hkd hl.1.1.1 hl.1.1.2 hl.1.2).1
   ·refine wp_skip<|κ32 _ _<|wp_seq_k fun _ κ36=>Sx.seqP fun _ κ37=>Sx.run S 12 [.mem 1 0,.mem 1 0] [(71,.bool ((((e.kind) != 5)&&((e.kind) != 4))&&(!((((e.kind)==1)&&((e.node.depth)==0))&&((e.index)==((s.ns.length:Nat):Int))))))] fun ac S=>Sx.done (κ37 _ _ ?_)
    refine Sx.cond S (fun hc38=>?_) (fun hc38=>?_)
    ·refine Sx.seqP fun _ κ39=>Sx.callv S 72 (exampleHolds_any (hg.below S.E)) fun ac u E40 S=>Sx.run S 1 [] [(4,.bool true)] fun ac S=>Sx.done<|κ39 _ _<|Vp.rt ?_
     refine Sx.ret1 S Tryz.results12 ?_
     exact⟨rfl,S.E⟩
    ·refine wp_skip<|κ36 _ _<|wp_seq_k (fun _ κ41=>?_)
     have hlk:es.length≤1∧∀d∈es,d.kind=e.kind:=by
      have hc:=hc38
      by_cases h5:e.kind=5∨e.kind=4
      ·exact df_other hap hkd h5
      ·have hl:(e.kind=1∧e.node.depth=0)∧e.index=((s.ns.length:Nat):Int):=by
        simp only[not_or]at h5
        simpa[h5.1,h5.2]using hc
       obtain⟨h1,h2⟩:=df_last hap hkd hl.1.1 hl.1.2 hl.2
       exact⟨by omega,h2⟩
     have hE:IsEdits 20 u (.slice a5 es.length c5) es:=EdsOwn.is (hown) hfit
     have E01:=S.E
     have hg:=hg.below E01
     obtain⟨u1,hu1⟩:∃z:World,z=u:=⟨_,rfl⟩
     subst hu1
     have S:=S.re
     by_cases hq:es.length=0
     ·refine Sx.draw S 20 [.re 75 (.bool ((((es.length:Nat):Int))==0)) (.bool true),.dead 77 (.bool false),.dead 78 (.bool false),.dead 79 (.bool false),.dead 80 (.bool false),.dead 81 (.bool false),.dead 82 (.bool false),.dead 83 (.bool false),.dead 84 (.bool false),.dead 85 (.bool false),.dead 86 (.bool false),.dead 87 (.bool false),.dead 88 (.bool false)] [(_,_,true,.bool true)] [(92,.bool true)] ⟨fun u hC g=>exampleHolds_any (hg.below (Ext.trans' S.E hC)),trivial⟩ (hk:=⟨(congrArg Value.bool (by rw[hq]; rfl)),trivial⟩) fun ac u E42 S=>Sx.run S 1 [] [(4,.bool true)] fun ac S=>Sx.done<|κ41 _ _<|Vp.rt ?_
      refine Sx.ret1 S Tryz.results12 ?_
      exact⟨rfl,Ext.trans' E01 S.E⟩
     ·have hq1:es.length=1:=by have:=hlk.1; omega
      have lt49:0<es.length:=by omega
      obtain⟨b44,o45,c46,hv,hb51,hr47⟩:=Vp.rowN_range2 hE.1 (fun _=>rfl) (0) lt49
      simp only[Value.slice.injEq,true_and]at hv
      obtain⟨rfl,rfl⟩:=hv
      obtain⟨d50,hx48⟩:∃z,es[0]=z:=⟨_,rfl⟩
      rw[hx48]at hr47
      have S:=S.view0 hb51 hr47
      refine Sx.draw S 20 [.re 75 (.bool ((((es.length:Nat):Int))==0)) (.bool false),.re 79 (.bool ((((es.length:Nat):Int))==1)) (.bool true),.idx 0 es.length,.mem 0 0,.mem 2 0,.re 87 (.bool ((d50.kind)==e.kind)) (.bool true)] [(_,_,true,.bool true)] [(92,.bool true)] ⟨fun u hC g=>exampleHolds_any (hg.below (Ext.trans' S.E hC)),trivial⟩ (hk:=⟨(congrArg Value.bool (by rw[hq1]; rfl)),(congrArg Value.bool (by rw[hq1]; rfl)),lt49,(congrArg Value.bool (by rw[hlk.2 _ (hx48▸List.getElem_mem lt49)]; simp)),trivial⟩) fun ac u E43 S=>Sx.run S 1 [] [(4,.bool true)] fun ac S=>Sx.done<|κ41 _ _<|Vp.rt ?_
      refine Sx.ret1 S Tryz.results12 ?_
      exact⟨rfl,Ext.trans' E01 S.E⟩
end Go.Proofs.YtfmkkemfhjkajaaGreatDoor
