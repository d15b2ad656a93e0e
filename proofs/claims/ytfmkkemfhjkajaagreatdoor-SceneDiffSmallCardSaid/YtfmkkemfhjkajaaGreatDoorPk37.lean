/- Package scene: questions about places; equality. What a node holds, without the places: keys, numbers, limits. No program in sight. -/
import Derived.Test.YtfmkkemfhjkajaaGreatDoorScW
import Derived.Test.YtfmkkemfhjkajaaGreatDoorCln36b
section
set_option maxHeartbeats 3200000
set_option maxRecDepth 100000
namespace Go.Proofs.YtfmkkemfhjkajaaGreatDoor
open Go.RowKit
variable{α:Type}{K:Nat}
set_option linter.unusedVariables false
noncomputable def SceneK.index(s:SceneK)(id:Int):Int:=if s.valid=true then findI s.ns id else -1
noncomputable def SceneK.has(s:SceneK)(i:Int):Bool:=(decide (0≤i)&&decide (i<(s.ns.length:Int)))&&s.valid
noncomputable def SceneK.endOf(s:SceneK)(i:Int):Int:=if s.has i=true then (endK s.ns i.toNat:Int)else -1
noncomputable def SceneK.parOf(s:SceneK)(i:Int):Int:=if s.has i=true then parN (depK s.ns) i.toNat else -1
theorem has_of{s:SceneD}{i:Int}(h:s.key.has i=true):s.key.valid=true∧∃k:Nat,i=(k:Int)∧k<s.ns.length:=by
 unfold SceneK.has at h
 simp only[Bool.and_eq_true,decide_eq_true_eq,SceneD.key,List.length_map]at h
 exact⟨h.2,i.toNat,by omega,by omega⟩
theorem valid_vl{s:SceneK}(h:s.valid=true):VL s.ns:=(SceneK.valid_iff.1 h).2.2
theorem valid_dep{s:SceneD}(h:s.key.valid=true){i:Nat}(hi:i<s.ns.length):0≤s.ns[i].depth∧s.ns[i].depth<8:=(valid_vl h).depth s.ns[i].key (List.mem_map.2 ⟨_,List.getElem_mem hi,rfl⟩)
theorem NodeOk.eqP{w w':World}{a b:NodeD}(h:NodeOk K w a)(h':NodeOk K w' b):a.eqP b=decide (a.key=b.key):=eqP_key h.nrm h'.nrm
theorem col_u8(c d:PixD):(((c.r.toNat:Int)==d.r.toNat)&&(((c.g.toNat:Int)==d.g.toNat)&&(((c.b.toNat:Int)==d.b.toNat)&&((c.a.toNat:Int)==d.a.toNat))))=decide (c=d):=by
 rw[Bool.eq_iff_iff]
 simp only[Bool.and_eq_true,beq_iff_eq,u8_iff,decide_eq_true_eq]
 exact pix_iff
theorem col_eq(c d:PixD)(w:World):(binOp .eql 23 (.agg c.cells.toArray) (.agg d.cells.toArray)).run Tryz.prog w = .ok (.bool (decide (c=d))) w:=by
 rw[←col_u8]; exact eqCol ..
theorem neCol(a b c d e f g h:Int)(w:World):(binOp .neq 23 (.agg #[.int .u8 a,.int .u8 b,.int .u8 c,.int .u8 d]) (.agg #[.int .u8 e,.int .u8 f,.int .u8 g,.int .u8 h])).run Tryz.prog w = .ok (.bool (!((a==e)&&((b==f)&&((c==g)&&(d==h)))))) w:=by
 simp[go_sem]
 (repeat' split)<;>simp_all
theorem col_ne(c d:PixD)(w:World):(binOp .neq 23 (.agg c.cells.toArray) (.agg d.cells.toArray)).run Tryz.prog w = .ok (.bool (!decide (c=d))) w:=by
 rw[←col_u8]; exact neCol ..
theorem ks_ne{l m:List NodeD}(h:l.length≠m.length):false=decide (keys l=keys m):=by
 have:keys l≠keys m:=fun e=>h (by simpa using congrArg List.length e)
 simp[this]
theorem ks_end{l m:List NodeD}{k:Nat}(hk:l.length≤k)(h:l.length=m.length)(hR:(keys l).take k=(keys m).take k):true=decide (keys l=keys m):=by
 rw[List.take_of_length_le (by simpa using hk),List.take_of_length_le (by simpa using (show m.length≤k by omega))]at hR
 simp[hR]
theorem ks_step{l m:List NodeD}{k:Nat}(h1:k<l.length)(h2:k<m.length)(hR:(keys l).take k=(keys m).take k){x y:NodeD}(hx:l[k]=x)(hy:m[k]=y)(h:(!decide (x.key=y.key))=false):(keys l).take (k+1)=(keys m).take (k+1):=by
 rw[List.take_succ_eq_append_getElem (by simpa using h1),List.take_succ_eq_append_getElem (by simpa using h2),hR,key_at h1 hx,key_at h2 hy]
 simp at h
 rw[h]
theorem ks_no{l m:List NodeD}{k:Nat}(h1:k<l.length)(h2:k<m.length){x y:NodeD}(hx:l[k]=x)(hy:m[k]=y)(h:(!decide (x.key=y.key))=true):false=decide (keys l=keys m):=by
 symm
 rw[decide_eq_false_iff_not]
 intro e
 have:=congrArg (·[k]?) e
 simp only[keys,List.getElem?_map,List.getElem?_eq_getElem h1,List.getElem?_eq_getElem h2,hx,hy,Option.map_some,Option.some.injEq]at this
 simp[this]at h
theorem sc_ne{s t:SceneD}(h:((((s.w) != t.w)||((s.h) != t.h))||(!decide (s.bg=t.bg))||(((s.ns.length:Nat):Int) != ((t.ns.length:Nat):Int)))=true):false=decide (s.key=t.key):=by
 symm
 rw[decide_eq_false_iff_not]
 intro e
 simp only[SceneD.key,SceneK.mk.injEq]at e
 have hl:=congrArg List.length e.2.2.2
 simp at hl
 simp[e.1,e.2.1,e.2.2.1,hl]at h
theorem sc_len{s t:SceneD}(h:((((s.w) != t.w)||((s.h) != t.h))||(!decide (s.bg=t.bg))||(((s.ns.length:Nat):Int) != ((t.ns.length:Nat):Int)))=false):s.ns.length=t.ns.length:=by
 simp at h; omega
theorem sc_eq{s t:SceneD}{b:Bool}(h:((((s.w) != t.w)||((s.h) != t.h))||(!decide (s.bg=t.bg))||(((s.ns.length:Nat):Int) != ((t.ns.length:Nat):Int)))=false)(hb:b=decide (keys s.ns=keys t.ns)):b=decide (s.key=t.key):=by
 rw[hb]
 simp at h
 simp[SceneD.key,h]
theorem nodeEqD{w:World}{a b:NodeD}(h:NodeOk K w a)(h':NodeOk K w b):Calls Tryz.prog 56 #[a.v,b.v] w fun e w'=>e = .returned (.bool (decide (a.key=b.key)))∧Ext w w':=by
 rw[←h.eqP h']; exact nodeEqual_any h h'
theorem scValid_any{w:World}{s:SceneD}(h:SceneOk K w s)(hg:GlobOk w) :
  Calls Tryz.prog 22 #[s.v] w fun e w'=>e = .returned (.bool s.key.valid)∧Ext w w':=by
 skip
 refine Sx.enter Tryz.func22 Tryz.ntmps22 fun ac S=>Sx.seqP fun _ κ1=>Sx.newp S 1 s.cells fun ac u b2 E3 hb4 S=>Sx.run S 1 [] [(2,.bool false)] fun ac S=>Sx.done<|κ1 _ _<|Sx.seqP fun _ κ5=>Sx.run S 1 [.mem 0 0] [(6,s.v)] fun ac S=>Sx.callv S 7 (scCheck_any (h.below S.E) (hg.below S.E)) fun ac u E6 S=>Sx.run S 5 [] [(3,.int .i64 s.key.chk.1)] fun ac S=>Sx.done<|κ5 _ _<|Sx.seqP fun _ κ7=>Sx.run S 3 [] [(2,.bool ((s.key.chk.1)==0))] fun ac S=>Sx.done<|κ7 _ _<|Vp.rt ?_
 refine Sx.ret1 S Tryz.results22 ?_
 exact⟨rfl,S.E⟩
theorem scHas_any{w:World}{s:SceneD}(h:SceneOk K w s)(hg:GlobOk w)(i:Int) :
  Calls Tryz.prog 57 #[s.v,.int .i64 i] w fun e w'=>e = .returned (.bool (s.key.has i))∧Ext w w':=by
 skip
 refine Sx.enter Tryz.func57 Tryz.ntmps57 fun ac S=>Sx.seqP fun _ κ1=>Sx.newp S 2 s.cells fun ac u b2 E3 hb4 S=>Sx.run S 1 [] [(4,.bool false)] fun ac S=>Sx.done<|κ1 _ _<|Sx.seqP fun _ κ5=>Sx.runC S 14 [.mem 0 6,.mem 0 0] [(_,_,((decide (0≤i))&&(decide (i<((s.ns.length:Nat):Int)))),.bool s.key.valid)] [(4,.bool (((decide (0≤i))&&(decide (i<((s.ns.length:Nat):Int))))&&s.key.valid))] ⟨fun u hC g=>scValid_any (h.below (Ext.trans' S.E hC)) (hg.below (Ext.trans' S.E hC)),trivial⟩ fun ac u E6 S=>Sx.done<|κ5 _ _<|Vp.rt ?_
 refine Sx.ret1 S Tryz.results57 ?_
 exact⟨by unfold SceneK.has; rw[show s.key.ns.length=s.ns.length from List.length_map ..],S.E⟩
theorem scIndex_any{w:World}{s:SceneD}(h:SceneOk K w s)(hg:GlobOk w)(id:Int) :
  Calls Tryz.prog 25 #[s.v,.int .i64 id] w fun e w'=>e = .returned (.int .i64 (s.key.index id))∧Ext w w':=by
 skip
 refine Sx.enter Tryz.func25 Tryz.ntmps25 fun ac S=>Sx.seqP fun _ κ1=>Sx.newp S 2 s.cells fun ac u b2 E3 hb4 S=>Sx.run S 1 [] [(4,.int .i64 0)] fun ac S=>Sx.done<|κ1 _ _<|wp_seq_k fun _ κ5=>Sx.seqP fun _ κ6=>Sx.run S 1 [.mem 0 0] [(5,s.v)] fun ac S=>Sx.callv S 6 (scValid_any (h.below S.E) (hg.below S.E)) fun ac u E7 S=>Sx.run S 1 [] [(7,.bool (!s.key.valid))] fun ac S=>Sx.done (κ6 _ _ ?_)
 refine Sx.cond S (fun hc8=>?_) (fun hc8=>?_)
 ·refine Sx.seqP fun _ κ9=>Sx.run S 1 [] [(4,.int .i64 (-1))] fun ac S=>Sx.done<|κ9 _ _<|Vp.rt ?_
  refine Sx.ret1 S Tryz.results25 ?_
  exact⟨by unfold SceneK.index; rw[if_neg (by simpa using hc8)],S.E⟩
 ·refine wp_skip<|κ5 _ _<|Sx.seqP (fun _ κ10=>?_)
  have hv:s.key.valid=true:=by simpa using hc8
  refine Sx.run S 3 [.mem 0 6] [(9,s.s),(10,.int .i64 id)] fun ac S=>Sx.callv S 11 (scFind_any (id:=id) (h.2.2.1.below S.E)) fun ac u E11 S=>Sx.run S 1 [] [(4,.int .i64 (findI (keys s.ns) id))] fun ac S=>Sx.done<|κ10 _ _<|Vp.rt ?_
  refine Sx.ret1 S Tryz.results25 ?_
  exact⟨by unfold SceneK.index; rw[if_pos hv]; rfl,S.E⟩
theorem scEndOf_any{w:World}{s:SceneD}(h:SceneOk K w s)(hg:GlobOk w)(i:Int) :
  Calls Tryz.prog 24 #[s.v,.int .i64 i] w fun e w'=>e = .returned (.int .i64 (s.key.endOf i))∧Ext w w':=by
 skip
 refine Sx.enter Tryz.func24 Tryz.ntmps24 fun ac S=>Sx.seqP fun _ κ1=>Sx.newp S 2 s.cells fun ac u b2 E3 hb4 S=>Sx.run S 1 [] [(4,.int .i64 0)] fun ac S=>Sx.done<|κ1 _ _<|wp_seq_k fun _ κ5=>Sx.seqP fun _ κ6=>Sx.run S 2 [.mem 0 0] [(5,s.v),(6,.int .i64 i)] fun ac S=>Sx.callv S 7 (scHas_any (h.below S.E) (hg.below S.E) i) fun ac u E7 S=>Sx.run S 1 [] [(8,.bool (!(s.key.has i)))] fun ac S=>Sx.done (κ6 _ _ ?_)
 refine Sx.cond S (fun hc8=>?_) (fun hc8=>?_)
 ·refine Sx.seqP fun _ κ9=>Sx.run S 1 [] [(4,.int .i64 (-1))] fun ac S=>Sx.done<|κ9 _ _<|Vp.rt ?_
  refine Sx.ret1 S Tryz.results24 ?_
  exact⟨by unfold SceneK.endOf; rw[if_neg (by simpa using hc8)],S.E⟩
 ·refine wp_skip<|κ5 _ _<|Sx.seqP (fun _ κ10=>?_)
  have hh:s.key.has i=true:=by simpa using hc8
  obtain⟨hv,k,rfl,hk⟩:=has_of hh
  refine Sx.run S 3 [.mem 0 6] [(10,s.s),(11,.int .i64 ((k:Nat):Int))] fun ac S=>Sx.callv S 12 (scEnd_any (h.2.2.1.below S.E) hk rfl rfl) fun ac u E11 S=>Sx.run S 1 [] [(4,.int .i64 ((endK (keys s.ns) k:Nat):Int))] fun ac S=>Sx.done<|κ10 _ _<|Vp.rt ?_
  refine Sx.ret1 S Tryz.results24 ?_
  exact⟨by unfold SceneK.endOf; rw[if_pos hh]; rfl,S.E⟩
theorem scParOf_any{w:World}{s:SceneD}(h:SceneOk K w s)(hg:GlobOk w)(i:Int) :
  Calls Tryz.prog 36 #[s.v,.int .i64 i] w fun e w'=>e = .returned (.int .i64 (s.key.parOf i))∧Ext w w':=by
 skip
 refine Sx.enter Tryz.func36 Tryz.ntmps36 fun ac S=>Sx.seqP fun _ κ1=>Sx.newp S 2 s.cells fun ac u b2 E3 hb4 S=>Sx.run S 1 [] [(4,.int .i64 0)] fun ac S=>Sx.done<|κ1 _ _<|wp_seq_k fun _ κ5=>Sx.seqP fun _ κ6=>Sx.run S 2 [.mem 0 0] [(5,s.v),(6,.int .i64 i)] fun ac S=>Sx.callv S 7 (scHas_any (h.below S.E) (hg.below S.E) i) fun ac u E7 S=>Sx.run S 1 [] [(8,.bool (!(s.key.has i)))] fun ac S=>Sx.done (κ6 _ _ ?_)
 refine Sx.cond S (fun hc8=>?_) (fun hc8=>?_)
 ·refine Sx.seqP fun _ κ9=>Sx.run S 1 [] [(4,.int .i64 (-1))] fun ac S=>Sx.done<|κ9 _ _<|Vp.rt ?_
  refine Sx.ret1 S Tryz.results36 ?_
  exact⟨by unfold SceneK.parOf; rw[if_neg (by simpa using hc8)],S.E⟩
 ·refine wp_skip<|κ5 _ _<|Sx.seqP (fun _ κ10=>?_)
  have hh:s.key.has i=true:=by simpa using hc8
  obtain⟨hv,k,rfl,hk⟩:=has_of hh
  refine Sx.run S 3 [.mem 0 6] [(10,s.s),(11,.int .i64 ((k:Nat):Int))] fun ac S=>Sx.callv S 12 (scParent_any (h.2.2.1.below S.E) hk (valid_dep hv hk) rfl) fun ac u E11 S=>Sx.run S 1 [] [(4,.int .i64 (parN (depK (keys s.ns)) k))] fun ac S=>Sx.done<|κ10 _ _<|Vp.rt ?_
  refine Sx.ret1 S Tryz.results36 ?_
  exact⟨by unfold SceneK.parOf; rw[if_pos hh]; rfl,S.E⟩
theorem scEqN_any{w:World}{v u:Value}{l m:List NodeD}(h:IsNodes K w v l)(h':IsNodes K w u m) :
  Calls Tryz.prog 149 #[v,u] w fun e w'=>e = .returned (.bool (decide (keys l=keys m)))∧Ext w w':=by
 obtain⟨a,cap,rfl⟩:=h.1.shape
 obtain⟨d,cap',rfl⟩:=h'.1.shape
 have hmax:l.length≤9223372036854775807:=h.1.len
 refine Sx.enter Tryz.func149 Tryz.ntmps149 fun ac S=>Sx.seqP fun _ κ1=>Sx.run S 1 [] [(4,.bool false)] fun ac S=>Sx.done<|κ1 _ _<|wp_seq_k fun _ κ2=>Sx.seqP fun _ κ3=>Sx.run S 5 [] [(10,.bool ((((l.length:Nat):Int)) != ((m.length:Nat):Int)))] fun ac S=>Sx.done (κ3 _ _ ?_)
 refine Sx.cond S (fun hc4=>?_) (fun hc4=>?_)
 ·refine Sx.seqP fun _ κ5=>Sx.run S 1 [] [(4,.bool false)] fun ac S=>Sx.done<|κ5 _ _<|Vp.rt ?_
  refine Sx.ret1 S Tryz.results149 ?_
  exact⟨ret_bool (ks_ne (fun e=>by rw[e]at hc4; simp at hc4)),S.E⟩
 ·refine wp_skip<|κ2 _ _<|wp_seq_k fun _ κ6=>Sx.seqP fun _ κ7=>Sx.run S 3 [] [(12,.int .i64 ((l.length:Nat):Int)),(13,.int .i64 0)] fun ac S=>Sx.done<|κ7 _ _<|wp_block ?_
  refine Vp.loop (ι:=Nat) (fun p a' w'=>p≤l.length∧((keys l).take p=(keys m).take p)∧Sx.St w a' w' 27 [(0,.slice a l.length cap),(1,.slice d m.length cap'),(4,.bool false),(12,.int .i64 ((l.length:Nat):Int)),(13,.int .i64 ((p:Nat):Int))] [] []) (fun p=>l.length-p) (0) ⟨Nat.zero_le _,rfl,(S.sub [(0,.slice a l.length cap),(1,.slice d m.length cap'),(4,.bool false),(12,.int .i64 ((l.length:Nat):Int)),(13,.int .i64 ((0:Nat):Int))]).noviews⟩ ?_
  rintro k ac u hI
  try dsimp only at hI
  obtain⟨hk,hR,S⟩:=hI
  refine Sx.seqP fun _ κ8=>Sx.run S 1 [] [(14,.bool (decide (((k:Nat):Int)<((l.length:Nat):Int))))] fun ac S=>Sx.done<|κ8 _ _<|wp_seq_k (fun _ κ9=>?_)
  refine Sx.cond S (fun hc10=>?_) (fun hc10=>?_)
  ·refine wp_skip<|κ9 _ _<|wp_seq_k fun _ κ11=>wp_block<|Sx.seqP fun _ κ12=>Sx.run S 2 [] [(5,.int .i64 ((k:Nat):Int))] fun ac S=>Sx.done<|κ12 _ _<|wp_seq_k (fun _ κ13=>?_)
   have lt20:k<l.length:=by have:=of_decide_eq_true hc10; omega
   obtain⟨b15,o16,c17,hv,hb22,hr18⟩:=Vp.rowN_range2 h.1 (fun _=>rfl) (k) lt20
   simp only[Value.slice.injEq,true_and]at hv
   obtain⟨rfl,rfl⟩:=hv
   obtain⟨x21,hx19⟩:∃z,l[k]=z:=⟨_,rfl⟩
   rw[hx19]at hr18
   have S:=S.view0 hb22 hr18
   have lt28:k<m.length:=by have:=of_len hc4; have:=of_decide_eq_true hc10; omega
   obtain⟨b23,o24,c25,hv,hb30,hr26⟩:=Vp.rowN_range2 h'.1 (fun _=>rfl) (k) lt28
   simp only[Value.slice.injEq,true_and]at hv
   obtain⟨rfl,rfl⟩:=hv
   obtain⟨y29,hx27⟩:∃z,m[k]=z:=⟨_,rfl⟩
   rw[hx27]at hr26
   have S:=S.view0 hb30 hr26
   refine Sx.draw S 10 [.idx k l.length,.mem 1 0,.idx k m.length,.mem 0 0] [(_,_,true,.bool (decide (x21.key=y29.key)))] [(25,.bool (!(decide (x21.key=y29.key))))] ⟨fun u hC g=>nodeEqD ((h.2 _ (hx19▸List.getElem_mem lt20)).below (Ext.trans' S.E hC)) ((h'.2 _ (hx27▸List.getElem_mem lt28)).below (Ext.trans' S.E hC)),trivial⟩ (hk:=⟨lt20,lt28,trivial⟩) fun ac u E14 S=>Sx.done (κ13 _ _ ?_)
   refine Sx.cond S (fun hc31=>?_) (fun hc31=>?_)
   ·refine Sx.seqP fun _ κ32=>Sx.run S 1 [] [(4,.bool false)] fun ac S=>Sx.done<|κ32 _ _<|Vp.rt ?_
    refine Sx.ret1 S Tryz.results149 ?_
    exact⟨ret_bool (ks_no lt20 lt28 hx19 hx27 hc31),S.E⟩
   ·refine wp_skip<|κ11 _ _<|Vp.region<|Sx.run S 2 [.re 26 (.int .i64 (IntKind.i64.wrap (((k:Nat):Int)+1))) (.int .i64 (((k+1):Nat):Int))] [(13,.int .i64 (((k+1):Nat):Int))] (hk:=⟨Sx.wrap_succ (by omega),trivial⟩) fun ac S=>Sx.done ?_
    show ∃i',_∧_
    exact⟨(k+1),⟨by omega,(ks_step lt20 lt28 hR hx19 hx27 hc31),(S.sub [(0,.slice (some ⟨b15,o16,none⟩) l.length cap),(1,.slice (some ⟨b23,o24,none⟩) m.length cap'),(4,.bool false),(12,.int .i64 ((l.length:Nat):Int)),(13,.int .i64 (((k+1):Nat):Int))]).noviews⟩,by show _-_<_-_; omega⟩
  ·refine wp_exit<|κ6 _ _<|Sx.seqP fun _ κ33=>Sx.run S 1 [] [(4,.bool true)] fun ac S=>Sx.done<|κ33 _ _<|Vp.rt ?_
   refine Sx.ret1 S Tryz.results149 ?_
   exact⟨ret_bool (ks_end (by have:=of_decide_eq_false hc10; omega) (of_len hc4) hR),S.E⟩
theorem scEqual_any{w:World}{s t:SceneD}(h:SceneOk K w s)(h':SceneOk K w t) :
  Calls Tryz.prog 23 #[s.v,t.v] w fun e w'=>e = .returned (.bool (decide (s.key=t.key)))∧Ext w w':=by
 have hmax:s.ns.length≤9223372036854775807:=h.2.2.1.len
 refine Sx.enter Tryz.func23 Tryz.ntmps23 (fun ac S=>?_)
 obtain⟨a,cap,es⟩:∃a c,s.s = .slice a s.ns.length c:=⟨_,_,rfl⟩
 have hr:=h.2.2.1
 rw[es]at hr
 obtain⟨d,cap',et⟩:∃a c,t.s = .slice a t.ns.length c:=⟨_,_,rfl⟩
 have hr':=h'.2.2.1
 rw[et]at hr'
 refine Sx.seqP fun _ κ1=>Sx.newp S 2 s.cells fun ac u b2 E3 hb4 S=>Sx.newp S 3 t.cells fun ac u b5 E6 hb7 S=>Sx.run S 1 [] [(4,.bool false)] fun ac S=>Sx.done<|κ1 _ _<|wp_seq_k fun _ κ8=>Sx.seqP fun _ κ9=>Sx.run S 28 [.mem 1 0,.mem 0 0,.mem 1 1,.mem 0 1,.mem 1 2,.mem 0 2,.cmp .neq 23 (.tmp 20) (.tmp 22) (.agg #[.int .u8 (s.bg.r.toNat:Int),.int .u8 (s.bg.g.toNat:Int),.int .u8 (s.bg.b.toNat:Int),.int .u8 (s.bg.a.toNat:Int)]) (.agg #[.int .u8 (t.bg.r.toNat:Int),.int .u8 (t.bg.g.toNat:Int),.int .u8 (t.bg.b.toNat:Int),.int .u8 (t.bg.a.toNat:Int)]) (.bool (!decide (s.bg=t.bg))),.mem 1 6,.re 27 s.s (.slice a s.ns.length cap),.mem 0 6,.re 30 t.s (.slice d t.ns.length cap')] [(33,.bool (((((s.w) != t.w)||((s.h) != t.h))||(!decide (s.bg=t.bg)))||((((s.ns.length:Nat):Int)) != ((t.ns.length:Nat):Int))))] (hk:=⟨(Sx.cmp_agg (fun _=>col_ne s.bg t.bg _) (by kernel_rfl)),es,et,trivial⟩) fun ac S=>Sx.done (κ9 _ _ ?_)
 refine Sx.cond S (fun hc10=>?_) (fun hc10=>?_)
 ·refine Sx.seqP fun _ κ11=>Sx.run S 1 [] [(4,.bool false)] fun ac S=>Sx.done<|κ11 _ _<|Vp.rt ?_
  refine Sx.ret1 S Tryz.results23 ?_
  exact⟨ret_bool (sc_ne hc10),S.E⟩
 ·refine wp_skip<|κ8 _ _<|wp_seq_k fun _ κ12=>Sx.seqP fun _ κ13=>Sx.run S 4 [.mem 1 6,.re 35 s.s (.slice a s.ns.length cap)] [(36,.int .i64 ((s.ns.length:Nat):Int)),(37,.int .i64 0)] (hk:=⟨es,trivial⟩) fun ac S=>Sx.done<|κ13 _ _<|wp_block ?_
  refine Vp.loop (ι:=Nat) (fun p a' w'=>p≤s.ns.length∧((keys s.ns).take p=(keys t.ns).take p)∧Sx.St w a' w' 53 [(0,s.v),(1,t.v),(2,.pointer (some ⟨b2,0,none⟩)),(3,.pointer (some ⟨b5,0,none⟩)),(4,.bool false),(36,.int .i64 ((s.ns.length:Nat):Int)),(37,.int .i64 ((p:Nat):Int))] [(b5,t.cells),(b2,s.cells)] []) (fun p=>s.ns.length-p) (0) ⟨Nat.zero_le _,rfl,(S.sub [(0,s.v),(1,t.v),(2,.pointer (some ⟨b2,0,none⟩)),(3,.pointer (some ⟨b5,0,none⟩)),(4,.bool false),(36,.int .i64 ((s.ns.length:Nat):Int)),(37,.int .i64 ((0:Nat):Int))]).noviews⟩ ?_
  rintro k ac u hI
  try dsimp only at hI
  obtain⟨hk,hR,S⟩:=hI
  refine Sx.seqP fun _ κ14=>Sx.run S 1 [] [(38,.bool (decide (((k:Nat):Int)<((s.ns.length:Nat):Int))))] fun ac S=>Sx.done<|κ14 _ _<|wp_seq_k (fun _ κ15=>?_)
  refine Sx.cond S (fun hc16=>?_) (fun hc16=>?_)
  ·refine wp_skip<|κ15 _ _<|wp_seq_k fun _ κ17=>wp_block<|Sx.seqP fun _ κ18=>Sx.run S 2 [] [(5,.int .i64 ((k:Nat):Int))] fun ac S=>Sx.done<|κ18 _ _<|wp_seq_k (fun _ κ19=>?_)
   have lt26:k<s.ns.length:=by have:=of_decide_eq_true hc16; omega
   obtain⟨b21,o22,c23,hv,hb28,hr24⟩:=Vp.rowN_range2 hr (fun _=>rfl) (k) lt26
   simp only[Value.slice.injEq,true_and]at hv
   obtain⟨rfl,rfl⟩:=hv
   obtain⟨x27,hx25⟩:∃z,s.ns[k]=z:=⟨_,rfl⟩
   rw[hx25]at hr24
   have S:=S.view0 hb28 hr24
   have lt34:k<t.ns.length:=by have:=sc_len hc10; have:=of_decide_eq_true hc16; omega
   obtain⟨b29,o30,c31,hv,hb36,hr32⟩:=Vp.rowN_range2 hr' (fun _=>rfl) (k) lt34
   simp only[Value.slice.injEq,true_and]at hv
   obtain⟨rfl,rfl⟩:=hv
   obtain⟨y35,hx33⟩:∃z,t.ns[k]=z:=⟨_,rfl⟩
   rw[hx33]at hr32
   have S:=S.view0 hb36 hr32
   refine Sx.draw S 12 [.mem 1 6,.re 41 s.s (.slice (some ⟨b21,o22,none⟩) s.ns.length cap),.idx k s.ns.length,.mem 3 0,.mem 0 6,.re 46 t.s (.slice (some ⟨b29,o30,none⟩) t.ns.length cap'),.idx k t.ns.length,.mem 2 0] [(_,_,true,.bool (decide (x27.key=y35.key)))] [(51,.bool (!(decide (x27.key=y35.key))))] ⟨fun u hC g=>nodeEqD ((h.2.2.2 _ (hx25▸List.getElem_mem lt26)).below (Ext.trans' S.E hC)) ((h'.2.2.2 _ (hx33▸List.getElem_mem lt34)).below (Ext.trans' S.E hC)),trivial⟩ (hk:=⟨es,lt26,et,lt34,trivial⟩) fun ac u E20 S=>Sx.done (κ19 _ _ ?_)
   refine Sx.cond S (fun hc37=>?_) (fun hc37=>?_)
   ·refine Sx.seqP fun _ κ38=>Sx.run S 1 [] [(4,.bool false)] fun ac S=>Sx.done<|κ38 _ _<|Vp.rt ?_
    refine Sx.ret1 S Tryz.results23 ?_
    exact⟨ret_bool (sc_eq hc10 (ks_no lt26 lt34 hx25 hx33 hc37)),S.E⟩
   ·refine wp_skip<|κ17 _ _<|Vp.region<|Sx.run S 2 [.re 52 (.int .i64 (IntKind.i64.wrap (((k:Nat):Int)+1))) (.int .i64 (((k+1):Nat):Int))] [(37,.int .i64 (((k+1):Nat):Int))] (hk:=⟨Sx.wrap_succ (by omega),trivial⟩) fun ac S=>Sx.done ?_
    show ∃i',_∧_
    exact⟨(k+1),⟨by omega,(ks_step lt26 lt34 hR hx25 hx33 hc37),(S.sub [(0,s.v),(1,t.v),(2,.pointer (some ⟨b2,0,none⟩)),(3,.pointer (some ⟨b5,0,none⟩)),(4,.bool false),(36,.int .i64 ((s.ns.length:Nat):Int)),(37,.int .i64 (((k+1):Nat):Int))]).noviews⟩,by show _-_<_-_; omega⟩
  ·refine wp_exit<|κ12 _ _<|Sx.seqP fun _ κ39=>Sx.run S 1 [] [(4,.bool true)] fun ac S=>Sx.done<|κ39 _ _<|Vp.rt ?_
   refine Sx.ret1 S Tryz.results23 ?_
   exact⟨ret_bool (sc_eq hc10 (ks_end (by have:=of_decide_eq_false hc16; omega) (sc_len hc10) hR)),S.E⟩
end Go.Proofs.YtfmkkemfhjkajaaGreatDoor
end
section
namespace Go.Proofs.YtfmkkemfhjkajaaGreatDoor
open Go.RowKit
variable{α:Type}{K:Nat}
set_option linter.unusedVariables false
theorem keyOf_strip(n:NodeD):n.strip.key=n.key:=by
 unfold NodeD.key NodeD.strip
 simp only[List.map_map]
 rfl
theorem key_strip'{a b:NodeD}(h:a.strip=b.strip):a.key=b.key:=by rw[←keyOf_strip a,←keyOf_strip b,h]
theorem keys_strip{l m:List NodeD}(h:l.map NodeD.strip=m.map NodeD.strip):l.map NodeD.key=m.map NodeD.key:=by
 have e:∀l:List NodeD,l.map NodeD.key=(l.map NodeD.strip).map NodeD.key:=fun l=>by
  rw[List.map_map]
  exact List.map_congr_left fun n _=>(keyOf_strip n).symm
 rw[e l,e m,h]
theorem fits_strip{l m:List PaintD}(h:l.map PaintD.strip=m.map PaintD.strip)(hf:∀p∈m,p.t.fit K):∀p∈l,p.t.fit K:=fun p hp=>by
 have hm:p.strip∈m.map PaintD.strip:=h▸List.mem_map.2 ⟨p,hp,rfl⟩
 obtain⟨q,hq,e⟩:=List.mem_map.1 hm
 have h1:q.strip.t.fit K:=hf q hq
 rw[e]at h1
 exact h1
theorem strip_fits{a b:NodeD}(h:a.strip=b.strip):a.t.strip=b.t.strip∧a.fill.map PaintD.strip=b.fill.map PaintD.strip∧a.stroke.map PaintD.strip=b.stroke.map PaintD.strip:=by
 unfold NodeD.strip at h
 simp only[NodeD.mk.injEq]at h
 exact⟨h.2.2.2.1,h.2.2.2.2.2.2.2.2.2.2.2.2.2.2.2.2.2.2.1,h.2.2.2.2.2.2.2.2.2.2.2.2.2.2.2.2.2.2.2.2.2.2.1⟩
def NodeD.fitK(K:Nat)(n:NodeD):Prop:=n.t.fit K∧(∀p∈n.fill,p.t.fit K)∧(∀p∈n.stroke,p.t.fit K)∧1≤K∧K≤10000
theorem fit_strip{a b:NodeD}(h:a.fitK K)(hs:b.strip=a.strip):b.fitK K:=by
 obtain⟨h1,h2,h3⟩:=strip_fits hs
 have hf:a.t.strip.fit K:=h.1
 exact⟨by rw[←h1]at hf; exact hf,fits_strip h2 h.2.1,fits_strip h3 h.2.2.1,h.2.2.2⟩
theorem fits_all{l m:List NodeD}(hs:m.map NodeD.strip=l.map NodeD.strip)(h:∀n∈l,n.fitK K):∀n∈m,n.fitK K:=fun n hn=>by
 have hm:n.strip∈l.map NodeD.strip:=hs▸List.mem_map.2 ⟨n,hn,rfl⟩
 obtain⟨q,hq,e⟩:=List.mem_map.1 hm
 exact fit_strip (h q hq) e.symm
theorem paints_lim_strip{l m:List PaintD}(hs:m.map PaintD.strip=l.map PaintD.strip)(h:∀p∈l,p.lim):∀p∈m,p.lim:=fun p hp=>by
 have hm:p.strip∈l.map PaintD.strip:=hs▸List.mem_map.2 ⟨p,hp,rfl⟩
 obtain⟨q,hq,e⟩:=List.mem_map.1 hm
 have h1:q.strip.lim:=h q hq
 rw[e]at h1
 exact h1
theorem lim_strip{a b:NodeD}(h:a.lim)(hs:b.strip=a.strip):b.lim:=by
 obtain⟨h1,h2,h3⟩:=strip_fits hs
 have l2:b.fill.length=a.fill.length:=by have:=congrArg List.length h2; simpa using this
 have l3:b.stroke.length=a.stroke.length:=by have:=congrArg List.length h3; simpa using this
 unfold NodeD.strip at hs
 simp only[NodeD.mk.injEq,StyleD.strip,StyleD.mk.injEq,ImgD.strip,ImgD.mk.injEq]at hs
 obtain⟨k1,k2,k3,k4,k5,k6,k7,k8,k9⟩:=h
 have ht:a.t.strip.lim:=k1
 rw[←h1]at ht
 refine⟨ht,?_,?_,by omega,paints_lim_strip h2 k5,?_,by omega,paints_lim_strip h3 k8,?_⟩
 all_goals simp only[hs]; first | exact k2 | exact k3 | exact k6 | exact k9
theorem lims_strip{l m:List NodeD}(hs:m.map NodeD.strip=l.map NodeD.strip)(h:∀n∈l,n.lim):∀n∈m,n.lim:=fun n hn=>by
 have hm:n.strip∈l.map NodeD.strip:=hs▸List.mem_map.2 ⟨n,hn,rfl⟩
 obtain⟨q,hq,e⟩:=List.mem_map.1 hm
 exact lim_strip (h q hq) e.symm
/-- A node that fits and is few enough to copy. -/
abbrev NodeD.fitL (K:Nat)(n:NodeD):Prop:=n.fitK K∧n.lim
theorem fitL_strip{a b:NodeD}(h:a.fitL K)(hs:b.strip=a.strip):b.fitL K:=⟨fit_strip h.1 hs,lim_strip h.2 hs⟩
end Go.Proofs.YtfmkkemfhjkajaaGreatDoor
end
