/- Package scene: ApplyAll. Package scene: Children, Ancestors, Subtree. The law NodeDefault. -/
import Derived.Test.YtfmkkemfhjkajaaGreatDoorPk41
import Derived.Test.YtfmkkemfhjkajaaGreatDoorPk32
import Derived.Test.YtfmkkemfhjkajaaGreatDoorPk30
import Derived.Test.YtfmkkemfhjkajaaGreatDoorOpn36
section
namespace Go.Proofs.YtfmkkemfhjkajaaGreatDoor
open Go.RowKit
variable{α:Type}{K:Nat}
set_option linter.unusedVariables false
abbrev IsEdits (K:Nat)(w:World)(v:Value)(l:List EditD):Prop:=IsRowN 55 EditD.cells w v l∧∀e∈l,EditOk K w e
theorem nodesT_le{base b0:Nat}{v:Value}{l:List NodeD}{w:World}(h:NodesT base v l w)(hb:b0≤base):NodesT b0 v l w:=⟨h.1.le hb,fun n hn=>okT_le (h.2 n hn) hb⟩
theorem all_nil{s m:SceneD}{es:List EditD}{k:Nat}(hR:applyAllK s.key (es.map EditD.key) 0=applyAllK m.key ((es.map EditD.key).drop k) k)(hk:es.length≤k):applyAllK s.key (es.map EditD.key) 0=(m.key,(k:Int),0):=by
 rw[hR,List.drop_eq_nil_of_le (by simpa using hk)]; rfl
theorem all_cons{s m t:SceneD}{es:List EditD}{e:EditD}{code:Int}{k:Nat}(hR:applyAllK s.key (es.map EditD.key) 0=applyAllK m.key ((es.map EditD.key).drop k) k)(hk:k<es.length)(he:es[k]=e)(h:(t.key,code)=applyK m.key e.key) :
  applyAllK s.key (es.map EditD.key) 0=if code=0 then applyAllK t.key ((es.map EditD.key).drop (k+1)) (k+1)else (.zero,(k:Int),code):=by
 rw[hR,List.drop_eq_getElem_cons (by simpa using hk),List.getElem_map,he]
 unfold applyAllK
 rw[←h]
 cases hc:(es.map EditD.key).drop (k+1)<;>rfl
set_option maxRecDepth 100000 in
set_option maxHeartbeats 3200000 in
theorem scApplyAll_any{w:World}{s:SceneD}{v:Value}{es:List EditD}(h:SceneOk K w s)(hg:GlobOk w)(hes:IsEdits K w v es)(hlim:∀n∈s.ns,n.lim)(hel:∀e∈es,e.node.lim) :
  Calls Tryz.prog 32 #[s.v,v] w fun r w'=>∃(t:SceneD) (n code:Int),r = .returned (.tuple #[t.v,.int .i64 n,.int .i64 code])∧((s.key.valid=false∧(t.key,n,code)=(SceneK.zero,0,18)∨s.key.valid=true∧(t.key,n,code)=applyAllK s.key (es.map EditD.key) 0)∧CpNodes w.heap.size t.s t.ns w'∧SceneOk K w' t∧∀n∈t.ns,n.fitL K)∧Ext w w':=by
 obtain⟨a,cap,rfl⟩:=hes.1.shape
 have hmax:es.length≤9223372036854775807:=hes.1.len
 refine Sx.enter Tryz.func32 Tryz.ntmps32 fun ac S=>Sx.seqP fun _ κ1=>Sx.newp S 2 s.cells fun ac u b2 E3 hb4 S=>Sx.newp S 4 [.int .i64 0,.int .i64 0,.int .u8 0,.int .u8 0,.int .u8 0,.int .u8 0,.slice none 0 0] fun ac u b5 E6 hb7 S=>Sx.run S 2 [] [(5,.int .i64 0),(6,.int .i64 0)] fun ac S=>Sx.done<|κ1 _ _<|wp_seq_k fun _ κ8=>Sx.seqP fun _ κ9=>Sx.run S 1 [.mem 1 0] [(12,s.v)] fun ac S=>Sx.callv S 13 (scValid_any (h.below S.E) (hg.below S.E)) fun ac u E10 S=>Sx.run S 1 [] [(14,.bool (!s.key.valid))] fun ac S=>Sx.done (κ9 _ _ ?_)
 refine Sx.cond S (fun hc11=>?_) (fun hc11=>?_)
 ·refine Sx.seqP fun _ κ12=>Sx.run S 1 [] [(15,.agg #[.int .i64 0,.int .i64 0,.int .u8 0,.int .u8 0,.int .u8 0,.int .u8 0,.slice none 0 0])] fun ac S=>Sx.store S 0 (off:=0) (cs:=[.int .i64 0,.int .i64 0,.int .u8 0,.int .u8 0,.int .u8 0,.int .u8 0,.slice none 0 0]) rfl fun u C13 S=>Sx.run S 2 [] [(5,.int .i64 0),(6,.int .i64 18)] fun ac S=>Sx.done<|κ12 _ _<|Vp.rt ?_
  refine Sx.retctt S 0 Tryz.results32 rfl (v := .agg (SceneD.cells .zero).toArray) (u := .int .i64 0) (z := .int .i64 18) ⟨.zero,_,_,rfl,⟨.inl ⟨by simpa using hc11,rfl⟩,Sx.On.and (Sx.own_rowT (f:=NodeD.cells) (L:=[]) (fun _=>rfl) ⟨rfl,.inl ⟨rfl,rfl⟩⟩ rfl rfl) (fun _ _ _ n hn=>by cases hn),sceneD_zero_ok _,fun n hn=>by cases hn⟩,S.E⟩
 ·refine wp_skip<|κ8 _ _<|Sx.seqP (fun _ κ14=>?_)
  have R:=Sx.Rw.nil S
  have hv:s.key.valid=true:=by simpa using hc11
  have hsl:s.ns.length≤64:=by have:=(SceneK.valid_iff.1 hv).2.1; rwa [show s.key.ns.length=s.ns.length from List.length_map ..]at this
  refine Sx.run S 1 [.mem 1 0] [(16,s.v)] (fun ac S=>?_)
  have q15:=S.E.size
  have q16:=R.lt
  refine Sx.callG S (some 17) (scClone_any (h.below S.E) hlim (by omega)) ?_
  rintro e u ⟨m0,rfl,hmo,hms,hmw,hmh,hmb,E17⟩
  refine⟨_,rfl,E17,fun ac S=>?_⟩
  obtain⟨R,Y18⟩:=R.sync2 S (Sx.Stp.ext E17)
  have G19:=Sx.On.imp (Sx.Dep.ow hmo.cp q15 q16) fun _ h=>nodesT_le h q15
  refine Sx.newp S 7 [.int .i64 0,.int .i64 0,.int .u8 0,.int .u8 0,.int .u8 0,.int .u8 0,.slice none 0 0] fun ac u b20 E21 hb22 S=>Sx.store S 0 (off:=0) (cs:=m0.cells) rfl fun u C23 S=>Sx.done<|κ14 _ _<|wp_seq_k fun _ κ24=>Sx.seqP fun _ κ25=>Sx.run S 3 [] [(18,.slice a es.length cap),(19,.int .i64 ((es.length:Nat):Int)),(20,.int .i64 0)] fun ac S=>Sx.done<|κ25 _ _<|wp_block ?_
  have hk0:m0.key=s.key:=by unfold SceneD.key; rw[hmw,hmh,hmb]; exact congrArg _ (keys_strip hms)
  obtain⟨R,Y26⟩:=R.sync2 S (Sx.Stp.trans (Sx.Stp.boxv E21 hb22) (Sx.Stp.chm C23 (by simp[Sx.vb])))
  refine Vp.loop (ι:=Nat×SceneD) (fun p a' w'=>p.1≤es.length∧((I64 p.2.w∧I64 p.2.h)∧(∀n∈p.2.ns,n.fitL K)∧applyAllK s.key (es.map EditD.key) 0=applyAllK p.2.key ((es.map EditD.key).drop p.1) p.1)∧Sx.Rw w w' [(b20,p.2.cells),(b5,[.int .i64 0,.int .i64 0,.int .u8 0,.int .u8 0,.int .u8 0,.int .u8 0,.slice none 0 0]),(b2,s.cells)] []∧Sx.Ow w.heap.size (Sx.Ob [(b20,p.2.cells),(b5,[.int .i64 0,.int .i64 0,.int .u8 0,.int .u8 0,.int .u8 0,.int .u8 0,.slice none 0 0]),(b2,s.cells)] []) (fun W=>NodesT w.heap.size p.2.s p.2.ns W) w'∧Sx.St w a' w' 41 [(0,s.v),(1,.slice a es.length cap),(2,.pointer (some ⟨b2,0,none⟩)),(4,.pointer (some ⟨b5,0,none⟩)),(5,.int .i64 0),(6,.int .i64 0),(7,.pointer (some ⟨b20,0,none⟩)),(18,.slice a es.length cap),(19,.int .i64 ((es.length:Nat):Int)),(20,.int .i64 ((p.1:Nat):Int))] [(b20,p.2.cells),(b5,[.int .i64 0,.int .i64 0,.int .u8 0,.int .u8 0,.int .u8 0,.int .u8 0,.slice none 0 0]),(b2,s.cells)] []) (fun p=>es.length-p.1) (0,m0) ⟨Nat.zero_le _,⟨⟨hmw▸h.1,hmh▸h.2.1⟩,fun n hn=>⟨fits_all hms (fun n hn=>(h.2.2.2 n hn).2) n hn,lims_strip hms hlim n hn⟩,by rw[hk0]; rfl⟩,R,(Sx.On.step G19 Y26),(S.sub [(0,s.v),(1,.slice a es.length cap),(2,.pointer (some ⟨b2,0,none⟩)),(4,.pointer (some ⟨b5,0,none⟩)),(5,.int .i64 0),(6,.int .i64 0),(7,.pointer (some ⟨b20,0,none⟩)),(18,.slice a es.length cap),(19,.int .i64 ((es.length:Nat):Int)),(20,.int .i64 ((0:Nat):Int))]).noviews⟩ ?_
  rintro⟨k,m⟩ ac u hI
  try dsimp only at hI
  obtain⟨hk,hR,R,hF_M,S⟩:=hI
  refine Sx.seqP fun _ κ27=>Sx.run S 1 [] [(21,.bool (decide (((k:Nat):Int)<((es.length:Nat):Int))))] fun ac S=>Sx.done<|κ27 _ _<|wp_seq_k (fun _ κ28=>?_)
  refine Sx.cond S (fun hc29=>?_) (fun hc29=>?_)
  ·refine wp_skip<|κ28 _ _<|wp_seq_k fun _ κ30=>wp_block<|Sx.seqP (fun _ κ31=>?_)
   have lt37:k<es.length:=by have:=of_decide_eq_true hc29; omega
   obtain⟨b32,o33,c34,hv,hb39,hr35⟩:=Vp.rowN_range2 hes.1 (fun _=>rfl) (k) lt37
   simp only[Value.slice.injEq,true_and]at hv
   obtain⟨rfl,rfl⟩:=hv
   obtain⟨e38,hx36⟩:∃z,es[k]=z:=⟨_,rfl⟩
   rw[hx36]at hr35
   have S:=S.view0 hb39 hr35
   refine Sx.run S 3 [.idx k es.length,.mem 3 0] [(22,.int .i64 ((k:Nat):Int)),(24,e38.v)] (hk:=⟨lt37,trivial⟩) fun ac S=>Sx.newp S 9 (Sx.L [.int .i64 0,.int .i64 0,.int .i64 0,.int .i64 0,.int .i64 0,.int .i64 0,.int .i64 0]++Sx.za++Sx.L [.slice none 0 0,.int .i64 0,.int .u8 0,.int .i64 0,.bool false,.bool false,.slice none 0 0,.int .i64 0,.slice none 0 0,.int .i64 0,.int .i64 0,.int .i64 0,.int .i64 0,.slice none 0 0,.int .i64 0,.slice none 0 0,.int .i64 0,.int .i64 0,.slice none 0 0,.int .i64 0,.int .u8 0,.int .u8 0,.int .u8 0,.int .u8 0]) fun ac u b40 E41 hb42 S=>Sx.run S 1 [] [(8,.int .i64 ((k:Nat):Int))] fun ac S=>Sx.store S 0 (off:=0) (cs:=e38.cells) rfl fun u C43 S=>Sx.done<|κ31 _ _<|Sx.seqP fun _ κ44=>Sx.run S 2 [.mem 1 0,.mem 0 0] [(26,m.v),(27,e38.v)] (fun ac S=>?_)
   obtain⟨R,Y45⟩:=R.sync2 S (Sx.Stp.trans (Sx.Stp.boxv E41 hb42) (Sx.Stp.chm C43 (by simp[Sx.vb])))
   have q46:=S.E.size
   have q47:=R.lt
   refine Sx.callG S (some 28) (scApply_any (K:=K) (s:=m) (e:=e38) ⟨hR.1.1,hR.1.2,CpNodes.ok (Sx.Ow.dep (Sx.On.step hF_M Y45)) fun n hn=>(hR.2.1 n hn).1⟩ (hg.below S.E) ((hes.2 _ (hx36▸List.getElem_mem lt37)).below S.E) (fun n hn=>(hR.2.1 n hn).2) (hel _ (hx36▸List.getElem_mem lt37))) ?_
   rintro e u ⟨t,code,rfl,har,E48⟩
   refine⟨_,rfl,E48,fun ac S=>?_⟩
   obtain⟨R,Y49⟩:=R.sync2 S (Sx.Stp.ext E48)
   have G50:=Sx.On.imp (Sx.Dep.ow har.2.1 q46 q47) fun _ h=>nodesT_le h q46
   refine Sx.run S 3 [] [(29,t.v),(30,.int .i64 code)] fun ac S=>Sx.newp S 10 [.int .i64 0,.int .i64 0,.int .u8 0,.int .u8 0,.int .u8 0,.int .u8 0,.slice none 0 0] fun ac u b51 E52 hb53 S=>Sx.store S 0 (off:=0) (cs:=t.cells) rfl fun u C54 S=>Sx.run S 1 [] [(11,.int .i64 code)] fun ac S=>Sx.done<|κ44 _ _<|wp_seq_k fun _ κ55=>Sx.seqP fun _ κ56=>Sx.run S 2 [] [(32,.bool ((code) != 0))] fun ac S=>Sx.done (κ56 _ _ ?_)
   refine Sx.cond S (fun hc57=>?_) (fun hc57=>?_)
   ·refine Sx.seqP fun _ κ58=>Sx.run S 3 [] [(33,.agg #[.int .i64 0,.int .i64 0,.int .u8 0,.int .u8 0,.int .u8 0,.int .u8 0,.slice none 0 0]),(34,.int .i64 ((k:Nat):Int)),(35,.int .i64 code)] fun ac S=>Sx.store S 3 (off:=0) (cs:=[.int .i64 0,.int .i64 0,.int .u8 0,.int .u8 0,.int .u8 0,.int .u8 0,.slice none 0 0]) rfl fun u C59 S=>Sx.run S 2 [] [(5,.int .i64 ((k:Nat):Int)),(6,.int .i64 code)] fun ac S=>Sx.done<|κ58 _ _<|Vp.rt ?_
    refine Sx.retctt S 3 Tryz.results32 rfl (v := .agg (SceneD.cells .zero).toArray) (u := .int .i64 ((k:Nat):Int)) (z := .int .i64 code) ⟨.zero,_,_,rfl,⟨.inr ⟨hv,by rw[all_cons hR.2.2 lt37 hx36 har.1,if_neg (by simpa using hc57)]; rfl⟩,Sx.On.and (Sx.own_rowT (f:=NodeD.cells) (L:=[]) (fun _=>rfl) ⟨rfl,.inl ⟨rfl,rfl⟩⟩ rfl rfl) (fun _ _ _ n hn=>by cases hn),sceneD_zero_ok _,fun n hn=>by cases hn⟩,S.E⟩
   ·refine wp_skip<|κ55 _ _<|Vp.region<|Sx.run S 1 [.mem 0 0] [(36,t.v)] fun ac S=>Sx.store S 2 (off:=0) (cs:=t.cells) rfl fun u C60 S=>Sx.done<|κ30 _ _<|Vp.region<|Sx.run S 2 [.re 37 (.int .i64 (IntKind.i64.wrap (((k:Nat):Int)+1))) (.int .i64 (((k+1):Nat):Int))] [(20,.int .i64 (((k+1):Nat):Int))] (hk:=⟨Sx.wrap_succ (by omega),trivial⟩) fun ac S=>Sx.done ?_
    obtain⟨R,Y61⟩:=R.sync2 S (Sx.Stp.trans (Sx.Stp.boxv E52 hb53) (Sx.Stp.trans (Sx.Stp.chm C54 (by simp[Sx.vb])) (Sx.Stp.chm C60 (by simp[Sx.vb]))))
    have S:=S.dropB 2
    obtain⟨R,Y62⟩:=R.sync2 S (Sx.Stp.dropv 2)
    show ∃i',_∧_
    exact⟨((k+1),t),⟨by omega,⟨⟨har.2.2.1.1,har.2.2.1.2.1⟩,har.2.2.2,by rw[all_cons hR.2.2 lt37 hx36 har.1,if_pos (by simpa using hc57)]⟩,R,(Sx.On.step G50 (Sx.Stp.trans Y61 Y62)),(S.sub [(0,s.v),(1,.slice (some ⟨b32,o33,none⟩) es.length cap),(2,.pointer (some ⟨b2,0,none⟩)),(4,.pointer (some ⟨b5,0,none⟩)),(5,.int .i64 0),(6,.int .i64 0),(7,.pointer (some ⟨b20,0,none⟩)),(18,.slice (some ⟨b32,o33,none⟩) es.length cap),(19,.int .i64 ((es.length:Nat):Int)),(20,.int .i64 (((k+1):Nat):Int))]).noviews⟩,by show _-_<_-_; omega⟩
  ·refine wp_exit<|κ24 _ _<|Sx.seqP fun _ κ63=>Sx.run S 3 [.mem 0 0] [(38,m.v),(40,.int .i64 ((es.length:Nat):Int))] fun ac S=>Sx.store S 1 (off:=0) (cs:=m.cells) rfl fun u C64 S=>Sx.run S 2 [] [(5,.int .i64 ((es.length:Nat):Int)),(6,.int .i64 0)] fun ac S=>Sx.done<|κ63 _ _<|Vp.rt ?_
   obtain⟨R,Y65⟩:=R.sync2 S (Sx.Stp.chm C64 (by simp[Sx.vb]))
   have hk:=of_decide_eq_false hc29
   obtain rfl:k=es.length:=by omega
   refine Sx.retctt S 1 Tryz.results32 rfl (v := .agg (SceneD.cells m).toArray) (u := .int .i64 ((es.length:Nat):Int)) (z := .int .i64 0) ⟨m,_,_,rfl,⟨.inr ⟨hv,(all_nil hR.2.2 (Nat.le_refl _)).symm⟩,Sx.Ow.dep (Sx.On.step hF_M Y65),⟨hR.1.1,hR.1.2,CpNodes.ok (Sx.Ow.dep (Sx.On.step hF_M Y65)) fun n hn=>(hR.2.1 n hn).1⟩,hR.2.1⟩,S.E⟩
end Go.Proofs.YtfmkkemfhjkajaaGreatDoor
end
section
namespace Go.Proofs.YtfmkkemfhjkajaaGreatDoor
open Go.RowKit
variable{α:Type}{K:Nat}
set_option linter.unusedVariables false
theorem rwn_nil{w0 w:World}{bl:List (Nat×List Value)}{e:TypeId}{k:Nat}(R:Sx.Rw w0 w bl []):Sx.Rw w0 w bl [⟨e,k,.slice none 0 0,0,[]⟩]:=
 ⟨fun r hr=>by obtain rfl:=List.mem_singleton.1 hr; exact⟨(Nat.zero_mul k).symm,.inl ⟨rfl,rfl⟩⟩,R.lt,R.apart⟩
theorem valid_len{s:SceneD}(h:s.key.valid=true):s.ns.length≤64:=by
 have:=(SceneK.valid_iff.1 h).2.1
 rwa [show s.key.ns.length=s.ns.length from List.length_map ..]at this
end Go.Proofs.YtfmkkemfhjkajaaGreatDoor
end
section
namespace Go.Proofs.YtfmkkemfhjkajaaGreatDoor
open Go.RowKit
variable{α:Type}{K:Nat}
set_option linter.unusedVariables false
theorem TI.fit{w:World}{t:AffD}(h:TI w t)(hK:1≤K):t.fit K:=by
 obtain⟨h1,h2,h3,h4,h5,h6⟩:=h.2.fit qI_len
 exact⟨h1.mono hK,h2.mono hK,h3.mono hK,h4.mono hK,h5.mono hK,h6.mono hK⟩
theorem IsDef.ok{w:World}{id kind:Int}{nd:NodeD}(h:IsDef w id kind nd)(hi:I64 id)(hK:1≤K)(hK2:K≤10000):NodeOk K w nd:=by
 rcases h with ⟨-,t,ht,rfl⟩ | ⟨-,t,ht,rfl⟩ | ⟨-,t,b,ht,hb,rfl⟩ | ⟨-,rfl⟩
 ·exact⟨⟨hi,(show I64 1 by decide),i64_0,ht.1,nil_segs w,i64_0,(show I64 1 by decide),nil_segs w,i64_0,nil_paints w,StyleD.bare_ok w,nil_paints w,ImgD.bare_ok w,i64_0⟩,ht.fit hK,fun p hp=>(by cases hp),fun p hp=>(by cases hp),hK,hK2⟩
 ·exact shapeD_ok hi ht.1 (ht.fit (Nat.le_refl 1)) hK hK2
 ·refine⟨⟨hi,(show I64 3 by decide),i64_0,ht.1,nil_segs w,i64_0,i64_0,nil_segs w,i64_0,nil_paints w,StyleD.bare_ok w,nil_paints w,⟨(show I64 1 by decide),(show I64 1 by decide),?_⟩,(show I64 1 by decide)⟩,ht.fit hK,fun p hp=>(by cases hp),fun p hp=>(by cases hp),hK,hK2⟩
  refine⟨some ⟨b,0,none⟩,1,rfl,by decide,.inr ⟨b,0,rfl,hb.1,Nat.le_refl _,fun i hi j hj=>?_⟩⟩
  obtain rfl:i=0:=by simp[imageD]at hi; exact hi
  have:=hb.2.1 j
  rw[show 0+0*4+j=j by omega,this]
  show _=(PixD.cells pix0)[j]?
  rw[←List.getElem?_toArray]
  rfl
 ·exact nodeD0_ok w hK hK2
theorem IsDef.key{w w2:World}{id kind:Int}{nd m:NodeD}(h:IsDef w id kind nd)(k:IsDef w2 id kind m):nd.key=m.key∧nd.t.same m.t=true:=by
 have hs:qI.same qI=true:=by decide
 rcases h with ⟨rfl,t,ht,rfl⟩ | ⟨rfl,t,ht,rfl⟩ | ⟨rfl,t,b,ht,-,rfl⟩ | ⟨⟨k1,k2,k3⟩,rfl⟩ <;>
 rcases k with ⟨e,u,hu,rfl⟩ | ⟨e,u,hu,rfl⟩ | ⟨e,u,c,hu,-,rfl⟩ | ⟨⟨j1,j2,j3⟩,rfl⟩ <;>
 first | contradiction | (exact absurd e (by decide)) | skip
 ·exact⟨by unfold NodeD.key groupD; simp only[ht.2.q qI_nrm,hu.2.q qI_nrm],by show t.same u=true; rw[same_is ht.2 hu.2,hs]⟩
 ·exact⟨by unfold NodeD.key shapeD; simp only[ht.2.q qI_nrm,hu.2.q qI_nrm],by show t.same u=true; rw[same_is ht.2 hu.2,hs]⟩
 ·exact⟨by unfold NodeD.key imageD ImgD.key; simp only[ht.2.q qI_nrm,hu.2.q qI_nrm],by show t.same u=true; rw[same_is ht.2 hu.2,hs]⟩
 ·exact⟨rfl,by decide⟩
theorem IsDef.check{w:World}{id kind:Int}{nd:NodeD}(h:IsDef w id kind nd):(nd.checkN==0)=((((decide (1≤id))&&(decide (id≤1073741824)))&&(decide (1≤kind)))&&(decide (kind≤3))):=by
 have hv:qI.valid=true:=by decide
 have hd:qeq qI.det q0=false:=by decide
 have key:∀(n:NodeD),n.commonL=[(false,2),((((decide (id<1))||(decide (1073741824<id)))||false)||false,6),(!n.t.q.valid,5),(qeq n.t.q.det q0,9),(false,10),(false,17)]→n.t.q=qI→n.ownN=0→(n.checkN==0)=((decide (1≤id))&&(decide (id≤1073741824))):=by
  intro n hL hq ho
  unfold NodeD.checkN
  rw[hL,hq,hv,hd,ho]
  rw[Bool.eq_iff_iff]
  by_cases h1:id<1
  ·simp[badL,codeL,h1]; omega
  ·by_cases h2:1073741824<id
   ·simp[badL,codeL,h2]
    try omega
   ·simp[badL,codeL,h1,h2]; omega
 rcases h with ⟨rfl,t,ht,rfl⟩ | ⟨rfl,t,ht,rfl⟩ | ⟨rfl,t,b,ht,-,rfl⟩ | ⟨⟨k1,k2,k3⟩,rfl⟩
 ·rw[key _ rfl (ht.2.q qI_nrm) rfl]; simp
 ·rw[key _ rfl (ht.2.q qI_nrm) rfl]; simp
 ·rw[key _ rfl (ht.2.q qI_nrm) rfl]; simp
 ·rw[nodeD0_check]
  symm
  rw[Bool.eq_iff_iff]
  simp only[Bool.and_eq_true,decide_eq_true_eq,beq_iff_eq]
  omega
end Go.Proofs.YtfmkkemfhjkajaaGreatDoor
end
