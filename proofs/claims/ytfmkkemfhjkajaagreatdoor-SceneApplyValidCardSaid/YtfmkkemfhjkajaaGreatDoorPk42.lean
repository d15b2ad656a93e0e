/- Package scene: Children, Ancestors, Subtree. The law NodeDefault. -/
import Derived.Test.YtfmkkemfhjkajaaGreatDoorPk41
import Derived.Test.YtfmkkemfhjkajaaGreatDoorPk33
import Derived.Test.YtfmkkemfhjkajaaGreatDoorPk31
import Derived.Test.YtfmkkemfhjkajaaGreatDoorOpn36
section
set_option maxHeartbeats 3200000
set_option maxRecDepth 100000
namespace Go.Proofs.YtfmkkemfhjkajaaGreatDoor
open Go.RowKit
variable{α:Type}{K:Nat}
set_option linter.unusedVariables false
/-- A place, as a value. -/
def natv(n:Nat):Value := .int .i64 ((n:Nat):Int)
abbrev OwnN (base:Nat)(w:World)(v:Value)(l:List Nat):Prop:=w.ownsRow base 3 1 v l.length (l.map natv)
theorem rwn_nil{w0 w:World}{bl:List (Nat×List Value)}{e:TypeId}{k:Nat}(R:Sx.Rw w0 w bl []):Sx.Rw w0 w bl [⟨e,k,.slice none 0 0,0,[]⟩]:=
 ⟨fun r hr=>by obtain rfl:=List.mem_singleton.1 hr; exact⟨(Nat.zero_mul k).symm,.inl ⟨rfl,rfl⟩⟩,R.lt,R.apart⟩
/-- The children of node i, or of the top level. -/
noncomputable def SceneK.kids(s:SceneK)(i:Int):List Nat:=
 if ((((i) != -1)&&(!s.has i))||(!s.valid))=true then []else if 0≤i then kidsP (depK s.ns) (i.toNat+1) (endK s.ns i.toNat) (depK s.ns i.toNat+1)else kidsP (depK s.ns) 0 s.ns.length 0
theorem kidsP_snoc{f:Nat→Int}{a k:Nat}{d:Int}(h:a≤k):kidsP f a (k+1) d=kidsP f a k d++if f k=d then [k]else []:=by
 unfold kidsP
 rw[show k+1-a=(k-a)+1 by omega,List.range'_concat,List.filter_append]
 simp only[Nat.one_mul,show a+(k-a)=k by omega]
 split<;>simp_all
theorem kidsP_nil{f:Nat→Int}{a:Nat}{d:Int}:kidsP f a a d=[]:=by unfold kidsP; simp
theorem kidsP_len{f:Nat→Int}{a b:Nat}{d:Int}:(kidsP f a b d).length≤b:=Nat.le_trans (List.length_filter_le _ _) (by simp)
theorem valid_len{s:SceneD}(h:s.key.valid=true):s.ns.length≤64:=by
 have:=(SceneK.valid_iff.1 h).2.1
 rwa [show s.key.ns.length=s.ns.length from List.length_map ..]at this
theorem kids_len{s:SceneD}{i:Int}(h:((((i) != -1)&&(!s.key.has i))||(!s.key.valid))=false):s.ns.length≤64:=valid_len (by
 simp only[Bool.or_eq_false_iff,Bool.not_eq_false']at h
 exact h.2)
theorem has_id{s:SceneD}{i:Int}(h:((((i) != -1)&&(!s.key.has i))||(!s.key.valid))=false)(hi:0≤i):s.key.has i=true:=by
 simp only[Bool.or_eq_false_iff,Bool.and_eq_false_iff,Bool.not_eq_false']at h
 rcases h.1 with h1 | h1
 ·simp at h1; omega
 ·exact h1
noncomputable def SceneK.anc(s:SceneK)(i:Int):List Nat:=if s.has i=true then ancP (depK s.ns) 8 i.toNat else []
def ancZ(f:Nat→Int)(z:Int):List Nat:=if z<0 then []else ancP f 8 z.toNat
theorem ancZ_step{n:Nat}{f:Nat→Int}(T:IsTree n f){j:Nat}(hj:j<n)(h8:f j<8):ancZ f (j:Int)=ancZ f (parN f j)++[j]:=by
 unfold ancZ
 rw[if_neg (by omega),Int.toNat_natCast]
 show(if parN f j<0 then []else ancP f 7 (parN f j).toNat)++[j]=_
 congr 1
 by_cases h:parN f j<0
 ·rw[if_pos h,if_pos h]
 ·rw[if_neg h,if_neg h]
  obtain⟨p,hp⟩:=nat_of (z:=parN f j) (by omega)
  have:=IsTree.par_lt hp
  rw[hp,Int.toNat_natCast,T.anc_eq 7 p (by omega) (by omega),T.anc_eq 8 p (by omega) (by omega)]
theorem ancZ_len{n:Nat}{f:Nat→Int}(T:IsTree n f){i:Nat}(hi:i<n)(h8:f i<8){z:Int}{M:List Nat}(h:ancP f 8 i=ancZ f z++M):M.length≤8:=by
 have:=T.ancP_len hi h8
 rw[h,List.length_append]at this
 omega
theorem flat_one(l:List Nat):l.flatMap (fun n:Nat=>[natv n])=l.map natv:=by induction l<;>simp_all
theorem raw_own{base:Nat}{w:World}{v:Value}{l:List Nat}(h:OwnN base w v l):RawRow w 1 v l.length (l.map natv):=by
 have:=Sx.raw_rowN (Sx.On.self (Sx.own_rowN (f:=fun n:Nat=>[natv n]) (L:=l) (fun _=>rfl) h rfl (flat_one l).symm)) (fun _=>rfl) (fun _=>rfl)
 rwa [flat_one]at this
theorem rw_one{w0 w:World}{bl:List (Nat×List Value)}{r:Sx.Row}{rs:List Sx.Row}(R:Sx.Rw w0 w bl (r::rs)):Sx.Rw w0 w bl [r]:=
 R.sub ((List.Sublist.refl _).append (List.Sublist.filterMap _ (by simp))) fun x hx=>by rw[List.mem_singleton.1 hx]; exact List.mem_cons_self
theorem par_ge{f:Nat→Int}{k:Nat} : -1≤parN f k:=by
 rcases parTo_cases f (f k-1) k with h | ⟨j,h⟩
 ·unfold parN; omega
 ·unfold parN; omega
theorem lo_le{l:List NodeD}{q:Nat}(hq:q<l.length):q+1≤endK (keys l) q:=(endK_le (by simpa using hq)).1
theorem endK_keys{l:List NodeD}{q:Nat}(hq:q<l.length):endK (keys l) q≤l.length:=by simpa using (endK_le (l:=keys l) (i:=q) (by simpa using hq)).2
theorem scChildren_any{w:World}{s:SceneD}(h:SceneOk K w s)(hg:GlobOk w)(i:Int) :
  Calls Tryz.prog 39 #[s.v,.int .i64 i] w fun e w'=>∃v,e = .returned v∧OwnN w.heap.size w' v (s.key.kids i)∧Ext w w':=by
 have hmax:s.ns.length≤9223372036854775807:=h.2.2.1.len
 refine Sx.enter Tryz.func39 Tryz.ntmps39 (fun ac S=>?_)
 obtain⟨a,cap,es⟩:∃a c,s.s = .slice a s.ns.length c:=⟨_,_,rfl⟩
 have hr:=h.2.2.1
 rw[es]at hr
 refine Sx.seqP fun _ κ1=>Sx.newp S 2 s.cells fun ac u b2 E3 hb4 S=>Sx.run S 1 [] [(4,.slice none 0 0)] fun ac S=>Sx.done<|κ1 _ _<|wp_seq_k fun _ κ5=>Sx.seqP fun _ κ6=>Sx.runC S 13 [.mem 0 0,.mem 0 0] [(_,_,((i) != -1),.bool (s.key.has i)),(_,_,(!(((i) != -1)&&(!(s.key.has i)))),.bool s.key.valid)] [(22,.bool ((((i) != -1)&&(!(s.key.has i)))||(!s.key.valid)))] ⟨fun u hC g=>scHas_any (h.below (Ext.trans' S.E hC)) (hg.below (Ext.trans' S.E hC)) i,fun u hC g=>scValid_any (h.below (Ext.trans' S.E hC)) (hg.below (Ext.trans' S.E hC)),trivial⟩ fun ac u E7 S=>Sx.done (κ6 _ _ ?_)
 refine Sx.cond S (fun hc8=>?_) (fun hc8=>?_)
 ·refine Sx.seqP fun _ κ9=>Sx.run S 1 [] [(4,.slice none 0 0)] fun ac S=>Sx.done<|κ9 _ _<|Vp.rt ?_
  refine Sx.ret1 S Tryz.results39 ?_
  exact⟨_,rfl,by unfold SceneK.kids; rw[if_pos hc8]; exact⟨rfl,.inl ⟨rfl,rfl⟩⟩,S.E⟩
 ·refine wp_skip<|κ5 _ _<|wp_seq_k fun _ κ10=>Sx.draw S 5 [.mem 0 6,.re 24 s.s (.slice a s.ns.length cap)] [] [(5,.int .i64 0),(6,.int .i64 0),(25,.int .i64 ((s.ns.length:Nat):Int))] trivial (hk:=⟨es,trivial⟩) fun ac u E11 S=>Sx.run S 1 [] [(7,.int .i64 ((s.ns.length:Nat):Int))] fun ac S=>Sx.done<|κ10 _ _<|wp_seq_k (fun κq κ12=>?_)
  have J13:∀(lo hi:Nat) (d:Int) (ac:Act) (u:World),(lo≤hi)→(hi≤s.ns.length)→(s.key.kids i=kidsP (depK (keys s.ns)) lo hi d)→Sx.St w ac u 60 [(2,.pointer (some ⟨b2,0,none⟩)),(5,.int .i64 d),(6,.int .i64 ((lo:Nat):Int)),(7,.int .i64 ((hi:Nat):Int))] [(b2,s.cells)] []→κq ac u:=by
   intro lo hi d ac u hlh hhn hkk S
   refine κ12 _ _<|Sx.seqP fun _ κ14=>Sx.run S 1 [] [(8,.slice none 0 0)] fun ac S=>Sx.done<|κ14 _ _<|wp_seq_k fun _ κ15=>Sx.seqP fun _ κ16=>Sx.run S 2 [] [(9,.int .i64 ((lo:Nat):Int))] fun ac S=>Sx.done<|κ16 _ _<|wp_block ?_
   have hsl:=kids_len hc8
   have R:=Sx.Rw.nil S
   have R:=rwn_nil (e:=3) (k:=1) R
   refine Vp.loop (ι:=Value×Nat) (fun p a' w'=>(lo≤p.2∧p.2≤hi)∧Sx.Rw w w' [(b2,s.cells)] [⟨3,1,p.1,(kidsP (depK (keys s.ns)) lo p.2 d).length,(kidsP (depK (keys s.ns)) lo p.2 d).map natv⟩]∧Sx.St w a' w' 60 [(2,.pointer (some ⟨b2,0,none⟩)),(5,.int .i64 d),(6,.int .i64 ((lo:Nat):Int)),(7,.int .i64 ((hi:Nat):Int)),(8,p.1),(9,.int .i64 ((p.2:Nat):Int))] [(b2,s.cells)] []) (fun p=>hi-p.2) (.slice none 0 0,lo) ⟨⟨Nat.le_refl _,hlh⟩,R.as (by rw[kidsP_nil]; rfl),(S.sub [(2,.pointer (some ⟨b2,0,none⟩)),(5,.int .i64 d),(6,.int .i64 ((lo:Nat):Int)),(7,.int .i64 ((hi:Nat):Int)),(8,.slice none 0 0),(9,.int .i64 ((lo:Nat):Int))]).noviews⟩ ?_
   rintro⟨v,k⟩ ac u hI
   try dsimp only at hI
   obtain⟨hR,R,S⟩:=hI
   refine wp_seq_k fun _ κ17=>Sx.seqP fun _ κ18=>Sx.run S 3 [] [(44,.bool (decide (((k:Nat):Int)<((hi:Nat):Int))))] fun ac S=>Sx.done (κ18 _ _ ?_)
   refine Sx.cond S (fun hc19=>?_) (fun hc19=>?_)
   ·refine wp_skip<|κ17 _ _<|wp_seq_k fun _ κ20=>wp_block<|Sx.seqP (fun _ κ21=>?_)
    have lt27:k<s.ns.length:=by have:=of_decide_eq_true hc19; omega
    obtain⟨b22,o23,c24,hv,hb29,hr25⟩:=Vp.rowN_range2 hr (fun _=>rfl) (k) lt27
    simp only[Value.slice.injEq,true_and]at hv
    obtain⟨rfl,rfl⟩:=hv
    obtain⟨x28,hx26⟩:∃z,s.ns[k]=z:=⟨_,rfl⟩
    rw[hx26]at hr25
    have S:=S.view0 hb29 hr25
    refine Sx.run S 8 [.mem 0 6,.re 48 s.s (.slice (some ⟨b22,o23,none⟩) s.ns.length cap),.idx k s.ns.length,.mem 1 2] [(54,.bool ((x28.depth)==d))] (hk:=⟨es,lt27,trivial⟩) fun ac S=>Sx.done (κ21 _ _ ?_)
    refine Sx.cond S (fun hc30=>?_) (fun hc30=>?_)
    ·refine Vp.region<|Sx.run S 2 [] [(55,v),(56,.int .i64 ((k:Nat):Int))] fun ac S=>Sx.news S 57 1 [.int .i64 ((k:Nat):Int)] (fun ac u b31 E32 hb33 S=>?_)
     obtain⟨R,Y34⟩:=R.sync2 S (Sx.Stp.boxv E32 hb33)
     refine Sx.app S R 0 58 rfl tyInt (Sx.raw_bx (m:=1) (k:=1) (A:=[.int .i64 ((k:Nat):Int)]) (S.bx 0)) (by have:=kidsP_len (f:=depK (keys s.ns)) (a:=lo) (b:=k) (d:=d); show(kidsP (depK (keys s.ns)) lo k d).length+1≤9223372036854775807; have:=hR.2; omega) (by have:=kidsP_len (f:=depK (keys s.ns)) (a:=lo) (b:=k) (d:=d); show((kidsP (depK (keys s.ns)) lo k d).length+1)*8≤140737488355328; have:=hR.2; omega) fun ac u v35 X36 R S=>Sx.run S 1 [] [(8,v35)] fun ac S=>Sx.done<|κ20 _ _<|Vp.region<|Sx.run S 3 [.re 46 (.int .i64 (IntKind.i64.wrap (((k:Nat):Int)+1))) (.int .i64 (((k+1):Nat):Int))] [(9,.int .i64 (((k+1):Nat):Int))] (hk:=⟨Sx.wrap_succ (by omega),trivial⟩) fun ac S=>Sx.done ?_
     have S:=S.dropB 1
     obtain⟨R,Y37⟩:=R.sync2 S (Sx.Stp.dropv 1)
     show ∃i',_∧_
     have hdec:=of_decide_eq_true hc19
     exact⟨(v35,(k+1)),⟨⟨by omega,by have:=of_decide_eq_true hc19; omega⟩,R.as (show [(⟨3,1,v35,(kidsP (depK (keys s.ns)) lo k d).length+1,(kidsP (depK (keys s.ns)) lo k d).map natv++[natv k]⟩:Sx.Row)]=[⟨3,1,v35,(kidsP (depK (keys s.ns)) lo (k+1) d).length,(kidsP (depK (keys s.ns)) lo (k+1) d).map natv⟩] by rw[kidsP_snoc hR.1,depK_keys lt27,hx26,if_pos (by simpa using hc30)]; simp),(S.sub [(2,.pointer (some ⟨b2,0,none⟩)),(5,.int .i64 d),(6,.int .i64 ((lo:Nat):Int)),(7,.int .i64 ((hi:Nat):Int)),(8,v35),(9,.int .i64 (((k+1):Nat):Int))]).noviews⟩,by show hi-(k+1)<hi-k; omega⟩
    ·refine wp_skip<|κ20 _ _<|Vp.region<|Sx.run S 3 [.re 46 (.int .i64 (IntKind.i64.wrap (((k:Nat):Int)+1))) (.int .i64 (((k+1):Nat):Int))] [(9,.int .i64 (((k+1):Nat):Int))] (hk:=⟨Sx.wrap_succ (by omega),trivial⟩) fun ac S=>Sx.done ?_
     show ∃i',_∧_
     have hdec:=of_decide_eq_true hc19
     exact⟨(v,(k+1)),⟨⟨by omega,by have:=of_decide_eq_true hc19; omega⟩,R.as (congrArg (fun l:List Nat=>[(⟨3,1,v,l.length,l.map natv⟩:Sx.Row)]) (show(kidsP (depK (keys s.ns)) lo k d)=(kidsP (depK (keys s.ns)) lo (k+1) d) by rw[kidsP_snoc hR.1,depK_keys lt27,hx26,if_neg (by simpa using hc30)]; simp)),(S.sub [(2,.pointer (some ⟨b2,0,none⟩)),(5,.int .i64 d),(6,.int .i64 ((lo:Nat):Int)),(7,.int .i64 ((hi:Nat):Int)),(8,v),(9,.int .i64 (((k+1):Nat):Int))]).noviews⟩,by show hi-(k+1)<hi-k; omega⟩
   ·refine wp_exit<|κ15 _ _<|Sx.seqP fun _ κ38=>Sx.run S 2 [] [(4,v)] fun ac S=>Sx.done<|κ38 _ _<|Vp.rt ?_
    obtain rfl:k=hi:=by have:=of_decide_eq_false hc19; omega
    refine Sx.ret1 S Tryz.results39 ?_
    exact⟨_,rfl,by rw[hkk]; exact R.own _ List.mem_cons_self,S.E⟩
  refine Sx.seqP fun _ κ39=>Sx.run S 2 [] [(27,.bool (decide (0≤i)))] fun ac S=>Sx.done (κ39 _ _ ?_)
  refine Sx.cond S (fun hc40=>?_) (fun hc40=>?_)
  ·have hi0:=of_decide_eq_true hc40
   have hh:=has_id hc8 hi0
   obtain⟨hv,q,rfl,hq⟩:=has_of hh
   have hdx:=valid_dep hv hq
   have lt47:q<s.ns.length:=hq
   obtain⟨b42,o43,c44,hv,hb49,hr45⟩:=Vp.rowN_range2 hr (fun _=>rfl) (q) lt47
   simp only[Value.slice.injEq,true_and]at hv
   obtain⟨rfl,rfl⟩:=hv
   obtain⟨x48,hx46⟩:∃z,s.ns[q]=z:=⟨_,rfl⟩
   rw[hx46]at hr45
   rw[hx46]at hdx
   have S:=S.view0 hb49 hr45
   refine Sx.draw S 14 [.mem 0 6,.re 29 s.s (.slice (some ⟨b42,o43,none⟩) s.ns.length cap),.idx q s.ns.length,.mem 1 2,Sx.kw 34 (x48.depth+1),.re 36 (.int .i64 (IntKind.i64.wrap (((q:Nat):Int)+1))) (.int .i64 (((q+1):Nat):Int)),.mem 0 6,.re 38 s.s (.slice (some ⟨b42,o43,none⟩) s.ns.length cap)] [(_,_,true,.int .i64 ((endK (keys s.ns) q:Nat):Int))] [(5,.int .i64 (x48.depth+1)),(36,.int .i64 (((q+1):Nat):Int)),(40,.int .i64 ((endK (keys s.ns) q:Nat):Int))] ⟨fun u hC g=>scEnd_any (hr.below (Ext.trans' S.E hC)) hq rfl rfl,trivial⟩ (hk:=⟨es,lt47,Sx.kw_ok (by omega),Sx.wrap_succ (by omega),es,trivial⟩) fun ac u E41 S=>Sx.run S 2 [] [(6,.int .i64 (((q+1):Nat):Int)),(7,.int .i64 ((endK (keys s.ns) q:Nat):Int))] fun ac S=>Sx.done ?_
   exact J13 (q+1) (endK (keys s.ns) q) (x48.depth+1) _ _ (lo_le hq) (endK_keys hq) (by unfold SceneK.kids; rw[if_neg (by simp[hc8]),if_pos (by omega),Int.toNat_natCast,show s.key.ns=keys s.ns from rfl,depK_keys hq,hx46]) (S.sub [(2,.pointer (some ⟨b2,0,none⟩)),(5,.int .i64 (x48.depth+1)),(6,.int .i64 (((q+1):Nat):Int)),(7,.int .i64 ((endK (keys s.ns) q:Nat):Int))]).noviews
  ·refine wp_skip ?_
   exact J13 0 s.ns.length 0 _ _ (Nat.zero_le _) (Nat.le_refl _) (by unfold SceneK.kids; rw[if_neg (by simp[hc8]),if_neg (by have:=of_decide_eq_false hc40; omega),show s.key.ns=keys s.ns from rfl,List.length_map]) (S.sub [(2,.pointer (some ⟨b2,0,none⟩)),(5,.int .i64 0),(6,.int .i64 0),(7,.int .i64 ((s.ns.length:Nat):Int))]).noviews
theorem par_lt'{n:Nat}{f:Nat→Int}(T:IsTree n f){j:Nat}(hj:j<n):parN f j<(j:Int):=by
 by_cases h:parN f j<0
 ·omega
 ·obtain⟨p,hp⟩:=nat_of (z:=parN f j) (by omega)
  have:=IsTree.par_lt hp
  omega
theorem scAncestors_any{w:World}{s:SceneD}(h:SceneOk K w s)(hg:GlobOk w)(i:Int) :
  Calls Tryz.prog 41 #[s.v,.int .i64 i] w fun e w'=>∃v,e = .returned v∧OwnN w.heap.size w' v (s.key.anc i)∧Ext w w':=by
 skip
 refine Sx.enter Tryz.func41 Tryz.ntmps41 (fun ac S=>?_)
 obtain⟨a,cap,es⟩:∃a c,s.s = .slice a s.ns.length c:=⟨_,_,rfl⟩
 have hr:=h.2.2.1
 rw[es]at hr
 refine Sx.seqP fun _ κ1=>Sx.newp S 2 s.cells fun ac u b2 E3 hb4 S=>Sx.run S 1 [] [(4,.slice none 0 0)] fun ac S=>Sx.done<|κ1 _ _<|wp_seq_k fun _ κ5=>Sx.seqP fun _ κ6=>Sx.run S 2 [.mem 0 0] [(7,s.v),(8,.int .i64 i)] fun ac S=>Sx.callv S 9 (scHas_any (h.below S.E) (hg.below S.E) i) fun ac u E7 S=>Sx.run S 1 [] [(10,.bool (!(s.key.has i)))] fun ac S=>Sx.done (κ6 _ _ ?_)
 refine Sx.cond S (fun hc8=>?_) (fun hc8=>?_)
 ·refine Sx.seqP fun _ κ9=>Sx.run S 1 [] [(4,.slice none 0 0)] fun ac S=>Sx.done<|κ9 _ _<|Vp.rt ?_
  refine Sx.ret1 S Tryz.results41 ?_
  exact⟨_,rfl,by unfold SceneK.anc; rw[if_neg (by simpa using hc8)]; exact⟨rfl,.inl ⟨rfl,rfl⟩⟩,S.E⟩
 ·refine wp_skip<|κ5 _ _<|Sx.seqP (fun _ κ10=>?_)
  have hh:s.key.has i=true:=by simpa using hc8
  obtain⟨hv,q,rfl,hq⟩:=has_of hh
  have T:IsTree s.ns.length (depK (keys s.ns)):=by have:=(valid_vl hv).tree; rwa [show s.key.ns.length=s.ns.length from List.length_map ..]at this
  have hq8:depK (keys s.ns) q<8:=by rw[depK_keys hq]; exact(valid_dep hv hq).2
  refine Sx.run S 1 [] [(5,.slice none 0 0)] fun ac S=>Sx.done<|κ10 _ _<|wp_seq_k fun _ κ11=>Sx.seqP fun _ κ12=>Sx.run S 2 [] [(6,.int .i64 ((q:Nat):Int))] fun ac S=>Sx.done<|κ12 _ _<|wp_block ?_
  have R:=Sx.Rw.nil S
  have R:=rwn_nil (e:=3) (k:=1) R
  refine Vp.loop (ι:=Int×Value×List Nat) (fun p a' w'=>(-1≤p.1∧p.1<(s.ns.length:Int)∧ancP (depK (keys s.ns)) 8 q=ancZ (depK (keys s.ns)) p.1++p.2.2)∧Sx.Rw w w' [(b2,s.cells)] [⟨3,1,p.2.1,p.2.2.length,p.2.2.map natv⟩]∧Sx.St w a' w' 23 [(0,s.v),(1,.int .i64 ((q:Nat):Int)),(2,.pointer (some ⟨b2,0,none⟩)),(4,.slice none 0 0),(5,p.2.1),(6,.int .i64 p.1)] [(b2,s.cells)] []) (fun p=>(p.1+1).toNat) (((q:Nat):Int),.slice none 0 0,[]) ⟨⟨by omega,by omega,by unfold ancZ; rw[if_neg (by omega),Int.toNat_natCast,List.append_nil]⟩,R,(S.sub [(0,s.v),(1,.int .i64 ((q:Nat):Int)),(2,.pointer (some ⟨b2,0,none⟩)),(4,.slice none 0 0),(5,.slice none 0 0),(6,.int .i64 ((q:Nat):Int))]).noviews⟩ ?_
  rintro⟨z,v,M⟩ ac u hI
  try dsimp only at hI
  obtain⟨hR,R,S⟩:=hI
  refine wp_seq_k fun _ κ13=>Sx.seqP fun _ κ14=>Sx.run S 2 [] [(13,.bool (decide (0≤z)))] fun ac S=>Sx.done (κ14 _ _ ?_)
  refine Sx.cond S (fun hc15=>?_) (fun hc15=>?_)
  ·obtain⟨j,rfl⟩:=nat_of (of_decide_eq_true hc15)
   have hj:j<s.ns.length:=by omega
   have h8:depK (keys s.ns) j<8:=by rw[depK_keys hj]; exact(valid_dep hv hj).2
   refine wp_skip<|κ13 _ _<|wp_seq_k fun _ κ16=>wp_block<|Vp.region<|Sx.run S 1 [] [(18,.int .i64 ((j:Nat):Int))] fun ac S=>Sx.newRow S R 19 1 3 1 [natv j] fun ac u v17 E18 X19 R S=>Sx.run S 1 [] [(20,v)] (fun ac S=>?_)
   have hM:=ancZ_len T hq hq8 hR.2.2
   refine Sx.app S R 0 21 rfl tyInt (raw_own (R.own _ (List.mem_cons_of_mem _ List.mem_cons_self))) (by show 1+M.length≤9223372036854775807; omega) (by show(1+M.length)*8≤140737488355328; omega) (fun ac u v20 X21 R S=>?_)
   have R:=rw_one R
   refine Sx.run S 1 [] [(5,v20)] fun ac S=>Sx.done<|κ16 _ _<|Vp.region<|Sx.run S 3 [.mem 0 6,.re 15 s.s (.slice a s.ns.length cap)] [(15,.slice a s.ns.length cap),(16,.int .i64 ((j:Nat):Int))] (hk:=⟨es,trivial⟩) fun ac S=>Sx.callv S 17 (scParent_any (hr.below S.E) hj (valid_dep hv hj) rfl) fun ac u E22 S=>Sx.run S 1 [] [(6,.int .i64 (parN (depK (keys s.ns)) j))] fun ac S=>Sx.done ?_
   obtain⟨R,Y23⟩:=R.sync2 S (Sx.Stp.ext E22)
   show ∃i',_∧_
   have hpg:=par_ge (f:=(depK (keys s.ns))) (k:=j)
   have hpl:parN (depK (keys s.ns)) j<j:=par_lt' T hj
   exact⟨((parN (depK (keys s.ns)) j),v20,(j::M)),⟨⟨hpg,by omega,by rw[hR.2.2,ancZ_step T hj h8]; simp⟩,R.as (show [(⟨3,1,v20,1+M.length,[natv j]++M.map natv⟩:Sx.Row)]=[⟨3,1,v20,(j::M).length,(j::M).map natv⟩] by rw[Nat.add_comm]; rfl),(S.sub [(0,s.v),(1,.int .i64 ((q:Nat):Int)),(2,.pointer (some ⟨b2,0,none⟩)),(4,.slice none 0 0),(5,v20),(6,.int .i64 (parN (depK (keys s.ns)) j))]).noviews⟩,by show(parN (depK (keys s.ns)) j+1).toNat<(((j:Nat):Int)+1).toNat; omega⟩
  ·refine wp_exit<|κ11 _ _<|Sx.seqP fun _ κ24=>Sx.run S 2 [] [(4,v)] fun ac S=>Sx.done<|κ24 _ _<|Vp.rt ?_
   have hz:=of_decide_eq_false hc15
   refine Sx.ret1 S Tryz.results41 ?_
   exact⟨_,rfl,by unfold SceneK.anc; rw[if_pos hh,Int.toNat_natCast,show s.key.ns=keys s.ns from rfl,hR.2.2]; unfold ancZ; rw[if_pos (by omega),List.nil_append]; exact R.own _ List.mem_cons_self,S.E⟩
end Go.Proofs.YtfmkkemfhjkajaaGreatDoor
end
section
namespace Go.Proofs.YtfmkkemfhjkajaaGreatDoor
open Go.RowKit
variable{α:Type}{K:Nat}
set_option linter.unusedVariables false
theorem TI.fit{w:World}{t:AffD}(h:TI w t)(hK:1≤K):t.fit K:=by
 obtain⟨h1,h2,h3,h4,h5,h6⟩:=h.2.fit qI_len
 exact⟨h1.mono hK,h2.mono hK,h3.mono hK,h4.mono hK,h5.mono hK,h6.mono hK⟩
theorem IsDef.ok{w:World}{id kind:Int}{nd:NodeD}(h:IsDef w id kind nd)(hi:I64 id)(hK:1≤K)(hK2:K≤10000):NodeOk K w nd:=by
 rcases h with ⟨-,t,ht,rfl⟩ | ⟨-,t,ht,rfl⟩ | ⟨-,t,b,ht,hb,rfl⟩ | ⟨-,rfl⟩
 ·exact⟨⟨hi,(show I64 1 by decide),i64_0,ht.1,nil_segs w,i64_0,(show I64 1 by decide),nil_segs w,i64_0,nil_paints w,StyleD.bare_ok w,nil_paints w,ImgD.bare_ok w,i64_0⟩,ht.fit hK,fun p hp=>(by cases hp),fun p hp=>(by cases hp),hK,hK2⟩
 ·exact shapeD_ok hi ht.1 (ht.fit (Nat.le_refl 1)) hK hK2
 ·refine⟨⟨hi,(show I64 3 by decide),i64_0,ht.1,nil_segs w,i64_0,i64_0,nil_segs w,i64_0,nil_paints w,StyleD.bare_ok w,nil_paints w,⟨(show I64 1 by decide),(show I64 1 by decide),?_⟩,(show I64 1 by decide)⟩,ht.fit hK,fun p hp=>(by cases hp),fun p hp=>(by cases hp),hK,hK2⟩
  refine⟨some ⟨b,0,none⟩,1,rfl,by decide,.inr ⟨b,0,rfl,hb.1,Nat.le_refl _,fun i hi j hj=>?_⟩⟩
  obtain rfl:i=0:=by simp[imageD]at hi; exact hi
  have:=hb.2.1 j
  rw[show 0+0*4+j=j by omega,this]
  show _=(PixD.cells pix0)[j]?
  rw[←List.getElem?_toArray]
  rfl
 ·exact nodeD0_ok w hK hK2
theorem IsDef.key{w w2:World}{id kind:Int}{nd m:NodeD}(h:IsDef w id kind nd)(k:IsDef w2 id kind m):nd.key=m.key∧nd.t.same m.t=true:=by
 have hs:qI.same qI=true:=by decide
 rcases h with ⟨rfl,t,ht,rfl⟩ | ⟨rfl,t,ht,rfl⟩ | ⟨rfl,t,b,ht,-,rfl⟩ | ⟨⟨k1,k2,k3⟩,rfl⟩ <;>
 rcases k with ⟨e,u,hu,rfl⟩ | ⟨e,u,hu,rfl⟩ | ⟨e,u,c,hu,-,rfl⟩ | ⟨⟨j1,j2,j3⟩,rfl⟩ <;>
 first | contradiction | (exact absurd e (by decide)) | skip
 ·exact⟨by unfold NodeD.key groupD; simp only[ht.2.q qI_nrm,hu.2.q qI_nrm],by show t.same u=true; rw[same_is ht.2 hu.2,hs]⟩
 ·exact⟨by unfold NodeD.key shapeD; simp only[ht.2.q qI_nrm,hu.2.q qI_nrm],by show t.same u=true; rw[same_is ht.2 hu.2,hs]⟩
 ·exact⟨by unfold NodeD.key imageD ImgD.key; simp only[ht.2.q qI_nrm,hu.2.q qI_nrm],by show t.same u=true; rw[same_is ht.2 hu.2,hs]⟩
 ·exact⟨rfl,by decide⟩
theorem IsDef.check{w:World}{id kind:Int}{nd:NodeD}(h:IsDef w id kind nd):(nd.checkN==0)=((((decide (1≤id))&&(decide (id≤1073741824)))&&(decide (1≤kind)))&&(decide (kind≤3))):=by
 have hv:qI.valid=true:=by decide
 have hd:qeq qI.det q0=false:=by decide
 have key:∀(n:NodeD),n.commonL=[(false,2),((((decide (id<1))||(decide (1073741824<id)))||false)||false,6),(!n.t.q.valid,5),(qeq n.t.q.det q0,9),(false,10),(false,17)]→n.t.q=qI→n.ownN=0→(n.checkN==0)=((decide (1≤id))&&(decide (id≤1073741824))):=by
  intro n hL hq ho
  unfold NodeD.checkN
  rw[hL,hq,hv,hd,ho]
  rw[Bool.eq_iff_iff]
  by_cases h1:id<1
  ·simp[badL,codeL,h1]; omega
  ·by_cases h2:1073741824<id
   ·simp[badL,codeL,h2]
    try omega
   ·simp[badL,codeL,h1,h2]; omega
 rcases h with ⟨rfl,t,ht,rfl⟩ | ⟨rfl,t,ht,rfl⟩ | ⟨rfl,t,b,ht,-,rfl⟩ | ⟨⟨k1,k2,k3⟩,rfl⟩
 ·rw[key _ rfl (ht.2.q qI_nrm) rfl]; simp
 ·rw[key _ rfl (ht.2.q qI_nrm) rfl]; simp
 ·rw[key _ rfl (ht.2.q qI_nrm) rfl]; simp
 ·rw[nodeD0_check]
  symm
  rw[Bool.eq_iff_iff]
  simp only[Bool.and_eq_true,decide_eq_true_eq,beq_iff_eq]
  omega
end Go.Proofs.YtfmkkemfhjkajaaGreatDoor
end
