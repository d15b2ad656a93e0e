/- Package scene: the edits that lead from one scene to another. -/
import Derived.Test.YtfmkkemfhjkajaaGreatDoorDfW
import Derived.Test.YtfmkkemfhjkajaaGreatDoorPk44
set_option maxHeartbeats 1600000
set_option maxRecDepth 100000
namespace Go.Proofs.YtfmkkemfhjkajaaGreatDoor
open Go.RowKit
variable{α:Type}{K:Nat}
set_option linter.unusedVariables false
theorem tyEdit:SliceTy Tryz.prog 67 45 (.agg (EditD.cells ⟨0,0,0,0,nodeD0,.none⟩).toArray) 55 696:=⟨Tryz.underlying67,info_parts (by kernel_rfl),rfl,by decide⟩
/-- Edits in a row of one's own, their nodes in memory of one's own. -/
structure EdsOwn (base:Nat) (v:Value) (es:List EditD) (w:World):Prop where
 row:w.ownsRow base 45 55 v es.length (es.flatMap EditD.cells)
 nodes:Sx.On (fun i=>base≤i∧v.ownBlock≠some i) (fun W=>∀e∈es,e.node.okT base W) w
def EdFit(K:Nat)(e:EditD):Prop:=I64 e.kind∧I64 e.id∧I64 e.index∧I64 e.depth∧e.node.fitL K
theorem EdsOwn.raw{base:Nat}{v:Value}{es:List EditD}{w:World}(h:EdsOwn base v es w):RawRow w 55 v es.length (es.flatMap EditD.cells):=
 Sx.raw_rowN (Sx.On.self (Sx.own_rowN (f:=EditD.cells) (L:=es) (fun _=>rfl) h.row rfl rfl)) (fun _=>rfl) fun _=>rfl
theorem EdsOwn.is{base:Nat}{v:Value}{es:List EditD}{w:World}(h:EdsOwn base v es w)(hf:∀e∈es,EdFit K e):IsEdits K w v es:=
 ⟨Sx.On.self (Sx.own_rowN (f:=EditD.cells) (L:=es) (fun _=>rfl) h.row rfl rfl),fun e he=>⟨(hf e he).1,(hf e he).2.1,(hf e he).2.2.1,(hf e he).2.2.2.1,(Sx.On.self h.nodes e he).1,(hf e he).2.2.2.2.1⟩⟩
theorem EdsOwn.le{base b0:Nat}{v:Value}{es:List EditD}{w:World}(h:EdsOwn base v es w)(hb:b0≤base):EdsOwn b0 v es w:=
 ⟨ownsRow_mono h.row hb,(h.nodes.mono fun i hi=>⟨Nat.le_trans hb hi.1,hi.2⟩).imp fun _ k e he=>okT_le (k e he) hb⟩
theorem EdsOwn.ext{base:Nat}{v:Value}{es:List EditD}{w w':World}(h:EdsOwn base v es w)(hE:Ext w w'):EdsOwn base v es w':=⟨Sx.ownsRow_ext h.row hE,Sx.On.ext h.nodes hE⟩
theorem EdsOwn.nil{base:Nat}{w:World}:EdsOwn base (.slice none 0 0) [] w:=⟨⟨rfl,.inl ⟨rfl,rfl⟩⟩,fun _ _ _ e he=>by cases he⟩
theorem fitK_of{w:World}{n:NodeD}(h:NodeOk K w n):n.fitK K:=h.2
theorem zero_fitL(hK:1≤K)(hK2:K≤10000)(w:World):nodeD0.fitL K:=⟨fitK_of (nodeD0_ok w hK hK2),nodeD0_lim w⟩
theorem zero_okT(base:Nat)(w:World):nodeD0.okT base w:=by
 have T:∀(e:TypeId) (k:Nat),Sx.Ty e k base (.slice none 0 0) 0 w:=fun e k => .inl rfl
 have R:RatD.none.okT base w:=⟨(nodeD0_ok (K:=20) w (by decide) (by decide)).1.2.2.2.1.1,T _ _,T _ _⟩
 have A:AffD.none.okT base w:=⟨R,R,R,R,R,R⟩
 have P:IsPaintsT base w (.slice none 0 0) []:=⟨⟨rowN_nil _ _ _,T _ _⟩,fun p hp=>by cases hp⟩
 exact⟨(nodeD0_ok (K:=20) w (by decide) (by decide)).1,A,T _ _,T _ _,P,P,T _ _,T _ _⟩
theorem repl_step{l m:List NodeD}{k:Nat}(h1:k<l.length)(h2:k<m.length){x y:NodeD}(hx:l[k]=x)(hy:m[k]=y) :
  replacedK ((keys l).take (k+1)) ((keys m).take (k+1))=replacedK ((keys l).take k) ((keys m).take k)++(if x.key=y.key then []else [EditK.replace y.key]):=by
 unfold replacedK
 rw[List.take_succ_eq_append_getElem (by simpa using h1),List.take_succ_eq_append_getElem (by simpa using h2),List.zip_append (by simp; omega),List.filterMap_append]
 congr 1
 simp only[List.getElem_map,hx,hy,List.zip_cons_cons,List.zip_nil_right,List.filterMap_cons,List.filterMap_nil]
 split<;>simp_all
theorem repl_full{l m:List NodeD}{k:Nat}(hk:l.length≤k)(h:l.length=m.length):replacedK ((keys l).take k) ((keys m).take k)=replacedK (keys l) (keys m):=by
 rw[List.take_of_length_le (by simpa using hk),List.take_of_length_le (by simpa using (show m.length≤k by omega))]
theorem eds_snoc{P:EditD→Prop}{M:List EditD}{x:EditD}(h:∀p∈M,P p)(hx:P x):∀p∈M++[x],P p:=fun p hp=>by
 rcases List.mem_append.1 hp with hp | hp
 ·exact h p hp
 ·rw[List.mem_singleton.1 hp]; exact hx
theorem ekeys_snoc{M:List EditD}{L:List EditK}{x:EditD}{y:EditK}(h:M.map EditD.key=L)(hx:x.key=y):(M++[x]).map EditD.key=L++[y]:=by rw[List.map_append,h,List.map_singleton,hx]
theorem elen_snoc{M:List EditD}{x:EditD}{k:Nat}(h:M.length≤k):(M++[x]).length≤k+1:=by rw[List.length_append,List.length_singleton]; omega
theorem erow_nil{w0 w:World}{bl:List (Nat×List Value)}(R:Sx.Rw w0 w bl []):Sx.Rw w0 w bl [⟨45,55,.slice none 0 0,0,[]⟩]:=
 ⟨fun r hr=>by obtain rfl:=List.mem_singleton.1 hr; exact⟨rfl,.inl ⟨rfl,rfl⟩⟩,R.lt,R.apart⟩
theorem key_of_strip'{a b:NodeD}(h:a.strip=b.strip):a.key=b.key:=by
 have:=keys_strip (l:=[a]) (m:=[b]) (by simp[h])
 simpa using this
theorem scRepl_any{w:World}{v u:Value}{l m:List NodeD}(h:IsNodes K w v l)(h':IsNodes K w u m)(hlim:∀n∈m,n.lim)(hlm:l.length=m.length)(hn:l.length≤100000) :
  Calls Tryz.prog 73 #[v,u] w fun e w'=>∃(v':Value) (es:List EditD),e = .returned v'∧EdsOwn w.heap.size v' es w'∧(∀e∈es,EdFit K e)∧es.map EditD.key=replacedK (keys l) (keys m)∧es.length≤l.length∧Ext w w':=by
 obtain⟨a,cap,rfl⟩:=h.1.shape
 obtain⟨d,cap',rfl⟩:=h'.1.shape
 have hmax:l.length≤9223372036854775807:=h.1.len
 refine Sx.enter Tryz.func73 Tryz.ntmps73 fun ac S=>Sx.seqP fun _ κ1=>Sx.run S 1 [] [(4,.slice none 0 0)] fun ac S=>Sx.done<|κ1 _ _<|Sx.seqP fun _ κ2=>Sx.run S 1 [] [(5,.slice none 0 0)] fun ac S=>Sx.done<|κ2 _ _<|wp_seq_k fun _ κ3=>Sx.seqP fun _ κ4=>Sx.run S 3 [] [(8,.int .i64 ((l.length:Nat):Int)),(9,.int .i64 0)] fun ac S=>Sx.done<|κ4 _ _<|wp_block ?_
 have R:=Sx.Rw.nil S
 have R:=erow_nil R
 refine Vp.loop (ι:=Nat×Value×List EditD) (fun p a' w'=>p.1≤l.length∧((∀e∈p.2.2,EdFit K e)∧p.2.2.map EditD.key=replacedK ((keys l).take p.1) ((keys m).take p.1)∧p.2.2.length≤p.1)∧Sx.Rw w w' [] [⟨45,55,p.2.1,p.2.2.length,p.2.2.flatMap EditD.cells⟩]∧Sx.Ow w.heap.size (Sx.Ob [] [⟨45,55,p.2.1,p.2.2.length,p.2.2.flatMap EditD.cells⟩]) (fun W=>∀e∈p.2.2,e.node.okT w.heap.size W) w'∧Sx.St w a' w' 33 [(0,.slice a l.length cap),(1,.slice d m.length cap'),(4,.slice none 0 0),(5,p.2.1),(8,.int .i64 ((l.length:Nat):Int)),(9,.int .i64 ((p.1:Nat):Int))] [] []) (fun p=>l.length-p.1) (0,.slice none 0 0,[]) ⟨Nat.zero_le _,⟨(fun e he=>by cases he),rfl,Nat.le_refl _⟩,R,(fun _ _ _ e he=>by cases he),(S.sub [(0,.slice a l.length cap),(1,.slice d m.length cap'),(4,.slice none 0 0),(5,.slice none 0 0),(8,.int .i64 ((l.length:Nat):Int)),(9,.int .i64 ((0:Nat):Int))]).noviews⟩ ?_
 rintro⟨k,v,es⟩ ac u hI
 try dsimp only at hI
 obtain⟨hk,hR,R,hF_M,S⟩:=hI
 refine Sx.seqP fun _ κ5=>Sx.run S 1 [] [(10,.bool (decide (((k:Nat):Int)<((l.length:Nat):Int))))] fun ac S=>Sx.done<|κ5 _ _<|wp_seq_k (fun _ κ6=>?_)
 refine Sx.cond S (fun hc7=>?_) (fun hc7=>?_)
 ·refine wp_skip<|κ6 _ _<|wp_seq_k fun _ κ8=>wp_block<|Sx.seqP fun _ κ9=>Sx.run S 2 [] [(6,.int .i64 ((k:Nat):Int))] fun ac S=>Sx.done<|κ9 _ _<|wp_seq_k (fun _ κ10=>?_)
  have lt17:k<l.length:=by have:=of_decide_eq_true hc7; omega
  obtain⟨b12,o13,c14,hv,hb19,hr15⟩:=Vp.rowN_range2 h.1 (fun _=>rfl) (k) lt17
  simp only[Value.slice.injEq,true_and]at hv
  obtain⟨rfl,rfl⟩:=hv
  obtain⟨x18,hx16⟩:∃z,l[k]=z:=⟨_,rfl⟩
  rw[hx16]at hr15
  have S:=S.view0 hb19 hr15
  have lt25:k<m.length:=by have:=of_decide_eq_true hc7; omega
  obtain⟨b20,o21,c22,hv,hb27,hr23⟩:=Vp.rowN_range2 h'.1 (fun _=>rfl) (k) lt25
  simp only[Value.slice.injEq,true_and]at hv
  obtain⟨rfl,rfl⟩:=hv
  obtain⟨y26,hx24⟩:∃z,m[k]=z:=⟨_,rfl⟩
  rw[hx24]at hr23
  have S:=S.view0 hb27 hr23
  refine Sx.draw S 10 [.idx k l.length,.mem 1 0,.idx k m.length,.mem 0 0] [(_,_,true,.bool (decide (x18.key=y26.key)))] [(21,.bool (!(decide (x18.key=y26.key))))] ⟨fun u hC g=>nodeEqD ((h.2 _ (hx16▸List.getElem_mem lt17)).below (Ext.trans' S.E hC)) ((h'.2 _ (hx24▸List.getElem_mem lt25)).below (Ext.trans' S.E hC)),trivial⟩ (hk:=⟨lt17,lt25,trivial⟩) fun ac u E11 S=>Sx.done (κ10 _ _ ?_)
  refine Sx.cond S (fun hc28=>?_) (fun hc28=>?_)
  ·refine Vp.region<|Sx.run S 5 [.idx k m.length,.mem 0 0] [(22,v),(26,y26.v)] (fun ac S=>?_) (hk:=⟨lt25,trivial⟩)
   obtain⟨R,Y29⟩:=R.sync2 S (Sx.Stp.ext E11)
   have q30:=S.E.size
   have q31:=R.lt
   refine Sx.callG S (some 27) (clone_any ((h'.2 _ (hx24▸List.getElem_mem lt25)).1.below S.E) (hlim _ (hx24▸List.getElem_mem lt25))) ?_
   rintro e u ⟨c,rfl,hcm,hcs,E32⟩
   refine⟨_,rfl,E32,fun ac S=>?_⟩
   obtain⟨R,Y33⟩:=R.sync2 S (Sx.Stp.ext E32)
   have G34:=Sx.On.imp (Sx.Dep.ow hcm q30 q31) fun _ h=>okT_le h q30
   refine Sx.run S 1 [] [(28,.agg (Sx.L [.int .i64 4,.int .i64 0,.int .i64 0,.int .i64 0]++c.cells++Sx.L [.int .u8 0,.int .u8 0,.int .u8 0,.int .u8 0]).toArray)] fun ac S=>Sx.news S 29 1 (Sx.L [.int .i64 4,.int .i64 0,.int .i64 0,.int .i64 0]++c.cells++Sx.L [.int .u8 0,.int .u8 0,.int .u8 0,.int .u8 0]) (fun ac u b35 E36 hb37 S=>?_)
   have hel:es.length≤k:=hR.2.2
   obtain⟨R,Y38⟩:=R.sync2 S (Sx.Stp.boxv E36 hb37)
   refine Sx.app S R 0 30 rfl tyEdit (Sx.raw_bx (m:=1) (k:=55) (A:=(Sx.L [.int .i64 4,.int .i64 0,.int .i64 0,.int .i64 0]++c.cells++Sx.L [.int .u8 0,.int .u8 0,.int .u8 0,.int .u8 0])) (S.bx 0)) (by show es.length+1≤9223372036854775807; omega) (by show(es.length+1)*696≤140737488355328; omega) fun ac u v39 X40 R S=>Sx.run S 1 [] [(5,v39)] fun ac S=>Sx.done<|κ8 _ _<|Vp.region<|Sx.run S 2 [.re 31 (.int .i64 (IntKind.i64.wrap (((k:Nat):Int)+1))) (.int .i64 (((k+1):Nat):Int))] [(9,.int .i64 (((k+1):Nat):Int))] (hk:=⟨Sx.wrap_succ (by omega),trivial⟩) fun ac S=>Sx.done ?_
   have S:=S.dropB 1
   obtain⟨R,Y41⟩:=R.sync2 S (Sx.Stp.dropv 1)
   show ∃i',_∧_
   exact⟨((k+1),v39,(es++[(⟨4,0,0,0,c,.none⟩:EditD)])),⟨by omega,⟨eds_snoc hR.1 ⟨(show I64 4 by decide),(show I64 0 by decide),(show I64 0 by decide),(show I64 0 by decide),fitL_strip ⟨fitK_of (h'.2 _ (hx24▸List.getElem_mem lt25)),hlim _ (hx24▸List.getElem_mem lt25)⟩ hcs⟩,by rw[repl_step lt17 lt25 hx16 hx24,if_neg (by simpa using hc28)]; exact ekeys_snoc hR.2.1 (by show(EditK.mk 4 0 0 0 c.key _)=_; rw[key_of_strip' hcs]; rfl),elen_snoc hR.2.2⟩,R.as (show [(⟨45,55,v39,es.length+1,(es.flatMap EditD.cells++(Sx.L [.int .i64 4,.int .i64 0,.int .i64 0,.int .i64 0]++c.cells++Sx.L [.int .u8 0,.int .u8 0,.int .u8 0,.int .u8 0]))⟩:Sx.Row)]=[⟨45,55,v39,(es++[(⟨4,0,0,0,c,.none⟩:EditD)]).length,(es++[(⟨4,0,0,0,c,.none⟩:EditD)]).flatMap EditD.cells⟩] by rw[List.length_append,List.flatMap_append,List.flatMap_singleton]; rfl),Sx.On.imp (Sx.On.and (Sx.On.step hF_M (Sx.Stp.trans Y29 (Sx.Stp.trans Y33 (Sx.Stp.trans Y38 (Sx.Stp.trans X40 Y41))))) (Sx.On.step G34 (Sx.Stp.trans Y38 (Sx.Stp.trans X40 Y41)))) fun _ h=>eds_snoc h.1 h.2,(S.sub [(0,.slice (some ⟨b12,o13,none⟩) l.length cap),(1,.slice (some ⟨b20,o21,none⟩) m.length cap'),(4,.slice none 0 0),(5,v39),(8,.int .i64 ((l.length:Nat):Int)),(9,.int .i64 (((k+1):Nat):Int))]).noviews⟩,by show _-_<_-_; omega⟩
  ·refine wp_skip<|κ8 _ _<|Vp.region<|Sx.run S 2 [.re 31 (.int .i64 (IntKind.i64.wrap (((k:Nat):Int)+1))) (.int .i64 (((k+1):Nat):Int))] [(9,.int .i64 (((k+1):Nat):Int))] (hk:=⟨Sx.wrap_succ (by omega),trivial⟩) fun ac S=>Sx.done ?_
   obtain⟨R,Y42⟩:=R.sync2 S (Sx.Stp.ext E11)
   show ∃i',_∧_
   exact⟨((k+1),v,es),⟨by omega,⟨hR.1,by rw[hR.2.1,repl_step lt17 lt25 hx16 hx24,if_pos (by simpa using hc28),List.append_nil],Nat.le_succ_of_le hR.2.2⟩,R,(Sx.On.step hF_M Y42),(S.sub [(0,.slice (some ⟨b12,o13,none⟩) l.length cap),(1,.slice (some ⟨b20,o21,none⟩) m.length cap'),(4,.slice none 0 0),(5,v),(8,.int .i64 ((l.length:Nat):Int)),(9,.int .i64 (((k+1):Nat):Int))]).noviews⟩,by show _-_<_-_; omega⟩
 ·refine wp_exit<|κ3 _ _<|Sx.seqP fun _ κ43=>Sx.run S 2 [] [(4,v)] fun ac S=>Sx.done<|κ43 _ _<|Vp.rt ?_
  have hF:=hF_M
  have hkk:=of_decide_eq_false hc7
  refine Sx.ret1 S Tryz.results73 ?_
  exact⟨_,es,rfl,⟨R.own _ List.mem_cons_self,hF.mono fun i hi=>⟨hi.1,fun e=>hi.2 (Sx.mem_ob_row List.mem_cons_self e)⟩⟩,hR.1,by rw[hR.2.1,repl_full (by omega) hlm],by have:=hR.2.2; omega,S.E⟩
theorem trees_flat(ts:List TreeD):ts.map TreeD.v=ts.flatMap fun t=>[t.v]:=by induction ts<;>simp_all
theorem trees_row{base:Nat}{w:World}{v:Value}{ts:List TreeD}(h:w.ownsRow base 24 1 v ts.length (ts.map TreeD.v)):IsRowN 1 (fun t:TreeD=>[t.v]) w v ts:=
 Sx.On.self (Sx.own_rowN (f:=fun t:TreeD=>[t.v]) (L:=ts) (fun _=>rfl) h rfl (trees_flat ts))
theorem tree_mem{ts X:List TreeD}{p n:Nat}{t:TreeD}(hX:(ts.drop p).take n=X)(h:t∈X):t∈ts:=by
 rw[←hX]at h; exact List.mem_of_mem_drop (List.mem_of_mem_take h)
theorem head_of{l:List NodeD}{n:NodeD}(h0:0<l.length)(hx:l[0]=n):headId (keys l)=n.id:=by
 cases l with
 | nil=>simp at h0
 | cons y l=>simp only[List.getElem_cons_zero]at hx; rw[hx]; rfl
abbrev remK (X:List TreeD):List EditK:=X.map fun t=>EditK.remove (headId t.key)
theorem rem_step{X:List TreeD}{k:Nat}{t:TreeD}(hk:k<X.length)(hx:X[k]=t):remK (X.take (k+1))=remK (X.take k)++[EditK.remove (headId t.key)]:=by
 rw[List.take_succ_eq_append_getElem hk,remK,List.map_append,hx]; rfl
theorem inserts_append:∀{a b:List NodeK} {k:Nat},insertsK k (a++b)=insertsK k a++insertsK (k+a.length) b
 | [],b,k=>rfl
 | x::a,b,k=>by
  rw[List.cons_append]
  show EditK.insert k x::insertsK (k+1) (a++b)=EditK.insert k x::(insertsK (k+1) a++insertsK (k+(x::a).length) b)
  rw[inserts_append,List.length_cons,show k+(a.length+1)=k+1+a.length by omega]
theorem ins_step{l:List NodeD}{k i:Nat}{n:NodeD}(hi:i<l.length)(hx:l[i]=n):insertsK k ((keys l).take (i+1))=insertsK k ((keys l).take i)++[EditK.insert ((k+i:Nat):Int) n.key]:=by
 rw[List.take_succ_eq_append_getElem (by simpa using hi),inserts_append,List.length_take,Nat.min_eq_left (by simp; omega),List.getElem_map,hx]
 rfl
/-- The insertions of the trees before place j. -/
def insB(Y:List (List NodeK))(p q j:Nat):List EditK:=insertsK ((Y.take p).flatten.length) ((Y.take (min j (Y.length-q))).drop p).flatten
theorem insB_zero(Y:List (List NodeK))(p q:Nat):insB Y p q 0=[]:=by unfold insB; rw[Nat.zero_min]; simp[insertsK]
theorem insB_step{Y:List (List NodeK)}{p q j:Nat}(hj:j<Y.length):insB Y p q (j+1)=insB Y p q j++(if p≤j∧j<Y.length-q then insertsK ((Y.take j).flatten.length) Y[j]else []):=by
 unfold insB
 split
 ·rename_i h
  rw[Nat.min_eq_left (by omega),Nat.min_eq_left (by omega),List.take_succ_eq_append_getElem hj,List.drop_append_of_le_length (by simp; omega),List.flatten_append,List.flatten_singleton,inserts_append]
  congr 2
  rw[←List.length_append,←List.flatten_append]
  congr 2
  conv=>rhs; rw[←List.take_append_drop p (Y.take j)]
  rw[List.take_take,Nat.min_eq_left h.1]
 ·rename_i h
  rw[List.append_nil]
  by_cases h1:j<Y.length-q
  ·rw[Nat.min_eq_left (by omega),Nat.min_eq_left (by omega),List.drop_eq_nil_of_le (by simp; omega),List.drop_eq_nil_of_le (by simp; omega)]
  ·rw[Nat.min_eq_right (by omega),Nat.min_eq_right (by omega)]
theorem insB_all(Y:List (List NodeK))(p q:Nat):insB Y p q Y.length=insertsK ((Y.take p).flatten.length) (midK Y p q).flatten:=by
 unfold insB midK
 rw[Nat.min_eq_right (by omega),List.drop_take,show Y.length-q-p=Y.length-p-q by omega]
theorem rem_mid{ts X:List TreeD}{p q:Nat}(hX:(ts.drop p).take (ts.length-q-p)=X):remK X=(midK (tkeys ts) p q).map fun t=>EditK.remove (headId t):=by
 unfold midK
 rw[←hX,List.length_map,show ts.length-p-q=ts.length-q-p by omega,←List.map_drop,←List.map_take,List.map_map]
 rfl
/-- How many nodes the first j trees have. -/
abbrev offs (us:List TreeD)(j:Nat):Nat:=((tkeys us).take j).flatten.length
theorem offs_step{us:List TreeD}{j:Nat}{t:TreeD}(hj:j<us.length)(hx:us[j]=t):offs us (j+1)=offs us j+t.l.length:=by
 unfold offs
 rw[List.take_succ_eq_append_getElem (by simpa using hj),List.flatten_append,List.length_append,List.getElem_map,hx]
 simp
theorem insB_tk{us:List TreeD}{p q j:Nat}{t:TreeD}(hj:j<us.length)(hx:us[j]=t):insB (tkeys us) p q (j+1)=insB (tkeys us) p q j++(if p≤j∧j<us.length-q then insertsK (offs us j) (keys t.l)else []):=by
 have:=insB_step (Y:=tkeys us) (p:=p) (q:=q) (j:=j) (by simpa using hj)
 simp only[List.length_map,List.getElem_map,hx]at this
 exact this
theorem offs_le{us:List TreeD}{m:List NodeD}{j:Nat}(h:(us.map TreeD.l).flatten=m):offs us j≤m.length:=by
 have h1:(tkeys us).flatten.length=m.length:=by
  rw[←h,List.length_flatten,List.length_flatten,List.map_map,List.map_map]
  congr 2
  funext t
  simp
 rw[←h1]
 conv=>rhs; rw[←List.take_append_drop j (tkeys us),List.flatten_append,List.length_append]
 exact Nat.le_add_right _ _
theorem on_zero{B:Nat→Prop}{base:Nat}{w:World}:Sx.On B (fun W=>nodeD0.okT base W) w:=fun w' _ _=>zero_okT base w'
theorem scRebuild_any{w:World}{v u:Value}{l m:List NodeD}(h:IsNodes K w v l)(h':IsNodes K w u m)(hlim:∀n∈m,n.lim)(hl:l.length≤100000)(hm:m.length≤100000)(hK1:1≤K)(hK2:K≤10000) :
  Calls Tryz.prog 74 #[v,u] w fun e w'=>∃(v':Value) (es:List EditD),e = .returned v'∧EdsOwn w.heap.size v' es w'∧(∀e∈es,EdFit K e)∧es.map EditD.key=rebuiltK (keys l) (keys m)∧es.length≤200000∧Ext w w':=by
 obtain⟨a,cap,rfl⟩:=h.1.shape
 obtain⟨d,cap',rfl⟩:=h'.1.shape
 refine Sx.enter Tryz.func74 Tryz.ntmps74 fun ac S=>Sx.seqP fun _ κ1=>Sx.run S 1 [] [(4,.slice none 0 0)] fun ac S=>Sx.done<|κ1 _ _<|Sx.seqP fun _ κ2=>Sx.run S 1 [] [(17,.slice a l.length cap)] fun ac S=>Sx.callG S (some 18) (scRoots_any (h.below S.E) (by omega)) ?_
 rintro e u ⟨v,ts,rfl,ho5,hok5,hfl5,hrk5,hne5,hle5,E3⟩
 obtain⟨a5,c5,e5⟩:=Sx.own_shape ho5
 subst e5
 refine⟨_,rfl,E3,fun ac S=>?_⟩
 refine Sx.run S 1 [] [(19,.slice d m.length cap')] fun ac S=>Sx.callG S (some 20) (scRoots_any (h'.below S.E) (by omega)) ?_
 rintro e u ⟨v,us,rfl,ho6,hok6,hfl6,hrk6,hne6,hle6,E4⟩
 obtain⟨a6,c6,e6⟩:=Sx.own_shape ho6
 subst e6
 refine⟨_,rfl,E4,fun ac S=>?_⟩
 refine Sx.run S 2 [] [(5,.slice a5 ts.length c5),(6,.slice a6 us.length c6)] fun ac S=>Sx.done<|κ2 _ _<|Sx.seqP (fun _ κ5=>?_)
 have hts:IsTrees K u (.slice a5 ts.length c5) ts:=⟨trees_row ((Sx.ownsRow_ext ho5 E4)),((fun t ht=>(hok5 t ht).below E4))⟩
 have hus:IsTrees K u (.slice a6 us.length c6) us:=⟨trees_row (ho6),hok6⟩
 have E01:=S.E
 obtain⟨u1,hu1⟩:∃z:World,z=u:=⟨_,rfl⟩
 subst hu1
 have S:=S.re.noviews
 obtain⟨pp,hp⟩:∃z,pK (tkeys ts) (tkeys us)=z:=⟨_,rfl⟩
 obtain⟨q,hq⟩:∃q,qK (tkeys ts) (tkeys us)=q:=⟨_,rfl⟩
 obtain⟨hq1,hq2,-⟩:=qK_spec (x:=tkeys ts) (y:=tkeys us)
 rw[hp,hq,List.length_map]at hq1 hq2
 have hlt:∀t∈us,∀n∈t.l,n.lim:=fun t ht n hn=>hlim n (hfl6▸List.mem_flatten.2 ⟨t.l,List.mem_map.2 ⟨t,ht,rfl⟩,hn⟩)
 have hc5:=Sx.rowN_cap hts.1
 have hm5:=hts.1.len
 have hm6:=hus.1.len
 refine Sx.run S 2 [] [(22,.slice a5 ts.length c5),(23,.slice a6 us.length c6)] fun ac S=>Sx.callv S 24 (calls_as (scCommon_any (hts.below S.E) (hus.below S.E)) (show Value.tuple #[.int .i64 ((pK (tkeys ts) (tkeys us):Nat):Int),.int .i64 ((qK (tkeys ts) (tkeys us):Nat):Int)] = .tuple #[.int .i64 ((pp:Nat):Int),.int .i64 ((q:Nat):Int)] by rw[hp,hq])) fun ac u E6 S=>Sx.run S 5 [] [(7,.int .i64 ((pp:Nat):Int)),(8,.int .i64 ((q:Nat):Int))] fun ac S=>Sx.done<|κ5 _ _<|Sx.seqP fun _ κ7=>Sx.run S 1 [] [(9,.slice none 0 0)] fun ac S=>Sx.done<|κ7 _ _<|wp_seq_k fun _ κ8=>Sx.seqP fun _ κ9=>Sx.run S 9 [.re 32 (.int .i64 (IntKind.i64.wrap (((ts.length:Nat):Int)-((q:Nat):Int)))) (.int .i64 ((ts.length-q:Nat):Int)),.slc pp (ts.length-q) c5 c5] [(33,.slice (Sx.slA a5 pp c5 1) (ts.length-q-pp) (c5-pp)),(34,.int .i64 (((ts.length-q-pp):Nat):Int)),(35,.int .i64 0)] (hk:=⟨(wrap_sub (by omega) (by omega)),⟨by omega,by omega,Nat.le_refl _⟩,trivial⟩) fun ac S=>Sx.done<|κ9 _ _<|wp_block ?_
 obtain⟨X,hX⟩:∃X,(ts.drop pp).take (ts.length-q-pp)=X:=⟨_,rfl⟩
 have hXl:ts.length-q-pp=X.length:=by rw[←hX]; simp; omega
 have hXr:=Sx.rowN_slice hts.1 (l:=pp) (h':=ts.length-q) (m:=c5) (by omega) (by omega) (by omega) (Nat.le_refl _)
 obtain⟨a33,ha33⟩:∃z,Sx.slA a5 pp c5 1=z:=⟨_,rfl⟩
 obtain⟨c33,hc33⟩:∃z,c5-pp=z:=⟨_,rfl⟩
 rw[hX,ha33,hc33,hXl]at hXr
 rw[ha33,hc33,hXl]at S
 have R:=Sx.Rw.nil S
 have R:=erow_nil R
 refine Vp.loop (ι:=Nat×Value×List EditD) (fun p a' w'=>p.1≤X.length∧((∀e∈p.2.2,EdFit K e)∧p.2.2.map EditD.key=remK (X.take p.1)∧p.2.2.length≤p.1)∧Sx.Rw u1 w' [] [⟨45,55,p.2.1,p.2.2.length,p.2.2.flatMap EditD.cells⟩]∧Sx.Ow u1.heap.size (Sx.Ob [] [⟨45,55,p.2.1,p.2.2.length,p.2.2.flatMap EditD.cells⟩]) (fun W=>∀e∈p.2.2,e.node.okT u1.heap.size W) w'∧Sx.St u1 a' w' 84 [(0,.slice a l.length cap),(1,.slice d m.length cap'),(4,.slice none 0 0),(5,.slice a5 ts.length c5),(6,.slice a6 us.length c6),(7,.int .i64 ((pp:Nat):Int)),(8,.int .i64 ((q:Nat):Int)),(9,p.2.1),(33,.slice a33 X.length c33),(34,.int .i64 ((X.length:Nat):Int)),(35,.int .i64 ((p.1:Nat):Int))] [] []) (fun p=>X.length-p.1) (0,.slice none 0 0,[]) ⟨Nat.zero_le _,⟨(fun e he=>by cases he),rfl,Nat.le_refl _⟩,R,(fun _ _ _ e he=>by cases he),(S.sub [(0,.slice a l.length cap),(1,.slice d m.length cap'),(4,.slice none 0 0),(5,.slice a5 ts.length c5),(6,.slice a6 us.length c6),(7,.int .i64 ((pp:Nat):Int)),(8,.int .i64 ((q:Nat):Int)),(9,.slice none 0 0),(33,.slice a33 X.length c33),(34,.int .i64 ((X.length:Nat):Int)),(35,.int .i64 ((0:Nat):Int))]).noviews⟩ ?_
 rintro⟨k,v,es⟩ ac u hI
 try dsimp only at hI
 obtain⟨hk,hR,R,hF_M,S⟩:=hI
 refine Sx.seqP fun _ κ10=>Sx.run S 1 [] [(36,.bool (decide (((k:Nat):Int)<((X.length:Nat):Int))))] fun ac S=>Sx.done<|κ10 _ _<|wp_seq_k (fun _ κ11=>?_)
 refine Sx.cond S (fun hc12=>?_) (fun hc12=>?_)
 ·refine wp_skip<|κ11 _ _<|wp_seq_k fun _ κ13=>wp_block<|Sx.seqP (fun _ κ14=>?_)
  have lt20:k<X.length:=by have:=of_decide_eq_true hc12; omega
  obtain⟨b15,o16,c17,hv,hb22,hr18⟩:=Vp.rowN_range2 hXr (fun _=>rfl) (k) lt20
  simp only[Value.slice.injEq,true_and]at hv
  obtain⟨rfl,rfl⟩:=hv
  obtain⟨t21,hx19⟩:∃z,X[k]=z:=⟨_,rfl⟩
  rw[hx19]at hr18
  obtain⟨t21a,t21l⟩:=t21
  have hmem:(⟨t21a,t21l⟩:TreeD)∈ts:=tree_mem hX (hx19▸List.getElem_mem lt20)
  have hnd:IsNodes K u1 (.slice t21a t21l.length t21l.length) t21l:=hts.2 _ hmem
  have hne:0<t21l.length:=hne5 _ hmem
  have S:=S.view0 hb22 hr18
  refine Sx.run S 3 [.idx k X.length,.mem 0 0] [(11,.slice t21a t21l.length t21l.length)] (hk:=⟨lt20,trivial⟩) fun ac S=>Sx.done<|κ14 _ _<|Vp.region ?_
  have lt28:0<t21l.length:=hne
  obtain⟨b23,o24,c25,hv,hb30,hr26⟩:=Vp.rowN_range2 hnd.1 (fun _=>rfl) (0) lt28
  simp only[Value.slice.injEq,true_and]at hv
  obtain⟨rfl,rfl⟩:=hv
  obtain⟨n29,hx27⟩:∃z,t21l[0]=z:=⟨_,rfl⟩
  rw[hx27]at hr26
  have S:=S.view0 hb30 hr26
  refine Sx.run S 6 [.idx 0 t21l.length,.mem 0 0] [(39,v),(44,.agg (Sx.L [.int .i64 2,.int .i64 n29.id,.int .i64 0,.int .i64 0,.int .i64 0,.int .i64 0,.int .i64 0]++Sx.za++Sx.L [.slice none 0 0,.int .i64 0,.int .u8 0,.int .i64 0,.bool false,.bool false,.slice none 0 0,.int .i64 0,.slice none 0 0,.int .i64 0,.int .i64 0,.int .i64 0,.int .i64 0,.slice none 0 0,.int .i64 0,.slice none 0 0,.int .i64 0,.int .i64 0,.slice none 0 0,.int .i64 0,.int .u8 0,.int .u8 0,.int .u8 0,.int .u8 0]).toArray)] (hk:=⟨lt28,trivial⟩) fun ac S=>Sx.news S 45 1 (Sx.L [.int .i64 2,.int .i64 n29.id,.int .i64 0,.int .i64 0,.int .i64 0,.int .i64 0,.int .i64 0]++Sx.za++Sx.L [.slice none 0 0,.int .i64 0,.int .u8 0,.int .i64 0,.bool false,.bool false,.slice none 0 0,.int .i64 0,.slice none 0 0,.int .i64 0,.int .i64 0,.int .i64 0,.int .i64 0,.slice none 0 0,.int .i64 0,.slice none 0 0,.int .i64 0,.int .i64 0,.slice none 0 0,.int .i64 0,.int .u8 0,.int .u8 0,.int .u8 0,.int .u8 0]) (fun ac u b31 E32 hb33 S=>?_)
  have hel:=hR.2.2
  obtain⟨R,Y34⟩:=R.sync2 S (Sx.Stp.boxv E32 hb33)
  refine Sx.app S R 0 46 rfl tyEdit (Sx.raw_bx (m:=1) (k:=55) (A:=(Sx.L [.int .i64 2,.int .i64 n29.id,.int .i64 0,.int .i64 0,.int .i64 0,.int .i64 0,.int .i64 0]++Sx.za++Sx.L [.slice none 0 0,.int .i64 0,.int .u8 0,.int .i64 0,.bool false,.bool false,.slice none 0 0,.int .i64 0,.slice none 0 0,.int .i64 0,.int .i64 0,.int .i64 0,.int .i64 0,.slice none 0 0,.int .i64 0,.slice none 0 0,.int .i64 0,.int .i64 0,.slice none 0 0,.int .i64 0,.int .u8 0,.int .u8 0,.int .u8 0,.int .u8 0])) (S.bx 0)) (by show es.length+1≤9223372036854775807; omega) (by show(es.length+1)*696≤140737488355328; omega) fun ac u v35 X36 R S=>Sx.run S 1 [] [(9,v35)] fun ac S=>Sx.done<|κ13 _ _<|Vp.region<|Sx.run S 2 [.re 47 (.int .i64 (IntKind.i64.wrap (((k:Nat):Int)+1))) (.int .i64 (((k+1):Nat):Int))] [(35,.int .i64 (((k+1):Nat):Int))] (hk:=⟨Sx.wrap_succ (by omega),trivial⟩) fun ac S=>Sx.done ?_
  have S:=S.dropB 1
  obtain⟨R,Y37⟩:=R.sync2 S (Sx.Stp.dropv 1)
  show ∃i',_∧_
  exact⟨((k+1),v35,(es++[(⟨2,n29.id,0,0,nodeD0,.none⟩:EditD)])),⟨by omega,⟨eds_snoc hR.1 ⟨(show I64 2 by decide),(hnd.2 _ (hx27▸List.getElem_mem lt28)).1.1,(show I64 0 by decide),(show I64 0 by decide),zero_fitL hK1 hK2 u1⟩,by rw[rem_step lt20 hx19]; exact ekeys_snoc hR.2.1 (by show EditK.remove n29.id=EditK.remove (headId (keys t21l)); rw[head_of hne hx27]),elen_snoc hR.2.2⟩,R.as (show [(⟨45,55,v35,es.length+1,(es.flatMap EditD.cells++(Sx.L [.int .i64 2,.int .i64 n29.id,.int .i64 0,.int .i64 0,.int .i64 0,.int .i64 0,.int .i64 0]++Sx.za++Sx.L [.slice none 0 0,.int .i64 0,.int .u8 0,.int .i64 0,.bool false,.bool false,.slice none 0 0,.int .i64 0,.slice none 0 0,.int .i64 0,.int .i64 0,.int .i64 0,.int .i64 0,.slice none 0 0,.int .i64 0,.slice none 0 0,.int .i64 0,.int .i64 0,.slice none 0 0,.int .i64 0,.int .u8 0,.int .u8 0,.int .u8 0,.int .u8 0]))⟩:Sx.Row)]=[⟨45,55,v35,(es++[(⟨2,n29.id,0,0,nodeD0,.none⟩:EditD)]).length,(es++[(⟨2,n29.id,0,0,nodeD0,.none⟩:EditD)]).flatMap EditD.cells⟩] by rw[List.length_append,List.flatMap_append,List.flatMap_singleton]; rfl),Sx.On.imp (Sx.On.and (Sx.On.step hF_M (Sx.Stp.trans Y34 (Sx.Stp.trans X36 Y37))) on_zero) fun _ h=>eds_snoc h.1 h.2,(S.sub [(0,.slice a l.length cap),(1,.slice d m.length cap'),(4,.slice none 0 0),(5,.slice a5 ts.length c5),(6,.slice a6 us.length c6),(7,.int .i64 ((pp:Nat):Int)),(8,.int .i64 ((q:Nat):Int)),(9,v35),(33,.slice (some ⟨b15,o16,none⟩) X.length c33),(34,.int .i64 ((X.length:Nat):Int)),(35,.int .i64 (((k+1):Nat):Int))]).noviews⟩,by show _-_<_-_; omega⟩
 ·refine wp_exit<|κ8 _ _<|Sx.seqP fun _ κ38=>Sx.run S 1 [] [(12,.int .i64 0)] fun ac S=>Sx.done<|κ38 _ _<|wp_seq_k fun _ κ39=>Sx.seqP fun _ κ40=>Sx.run S 3 [] [(48,.slice a6 us.length c6),(49,.int .i64 ((us.length:Nat):Int)),(50,.int .i64 0)] fun ac S=>Sx.done<|κ40 _ _<|wp_block ?_
  obtain rfl:k=X.length:=by have:=of_decide_eq_false hc12; omega
  obtain⟨hE1,hE2,hE3⟩:=hR
  rw[List.take_length]at hE2
  refine Vp.loop (ι:=Nat×Nat×Value×List EditD) (fun p a' w'=>p.1≤us.length∧((∀e∈p.2.2.2,EdFit K e)∧p.2.2.2.map EditD.key=remK X++insB (tkeys us) pp q p.1∧p.2.1=offs us p.1∧p.2.2.2.length≤X.length+p.2.1)∧Sx.Rw u1 w' [] [⟨45,55,p.2.2.1,p.2.2.2.length,p.2.2.2.flatMap EditD.cells⟩]∧Sx.Ow u1.heap.size (Sx.Ob [] [⟨45,55,p.2.2.1,p.2.2.2.length,p.2.2.2.flatMap EditD.cells⟩]) (fun W=>∀e∈p.2.2.2,e.node.okT u1.heap.size W) w'∧Sx.St u1 a' w' 84 [(0,.slice a l.length cap),(1,.slice d m.length cap'),(4,.slice none 0 0),(5,.slice a5 ts.length c5),(6,.slice a6 us.length c6),(7,.int .i64 ((pp:Nat):Int)),(8,.int .i64 ((q:Nat):Int)),(9,p.2.2.1),(12,.int .i64 ((p.2.1:Nat):Int)),(33,.slice a33 X.length c33),(34,.int .i64 ((X.length:Nat):Int)),(48,.slice a6 us.length c6),(49,.int .i64 ((us.length:Nat):Int)),(50,.int .i64 ((p.1:Nat):Int))] [] []) (fun p=>us.length-p.1) (0,0,v,es) ⟨Nat.zero_le _,⟨hE1,by rw[insB_zero,List.append_nil]; exact hE2,rfl,hE3⟩,R,hF_M,(S.sub [(0,.slice a l.length cap),(1,.slice d m.length cap'),(4,.slice none 0 0),(5,.slice a5 ts.length c5),(6,.slice a6 us.length c6),(7,.int .i64 ((pp:Nat):Int)),(8,.int .i64 ((q:Nat):Int)),(9,v),(12,.int .i64 ((0:Nat):Int)),(33,.slice a33 X.length c33),(34,.int .i64 ((X.length:Nat):Int)),(48,.slice a6 us.length c6),(49,.int .i64 ((us.length:Nat):Int)),(50,.int .i64 ((0:Nat):Int))]).noviews⟩ ?_
  rintro⟨j,pl,v2,es2⟩ ac u hI
  try dsimp only at hI
  obtain⟨hk,hR,R,hF_M,S⟩:=hI
  obtain⟨hO1,hO2,hO3,hO4⟩:=hR
  refine Sx.seqP fun _ κ41=>Sx.run S 1 [] [(51,.bool (decide (((j:Nat):Int)<((us.length:Nat):Int))))] fun ac S=>Sx.done<|κ41 _ _<|wp_seq_k (fun _ κ42=>?_)
  refine Sx.cond S (fun hc43=>?_) (fun hc43=>?_)
  ·refine wp_skip<|κ42 _ _<|wp_seq_k fun _ κ44=>wp_block<|Sx.seqP (fun _ κ45=>?_)
   have lt51:j<us.length:=by have:=of_decide_eq_true hc43; omega
   obtain⟨b46,o47,c48,hv,hb53,hr49⟩:=Vp.rowN_range2 hus.1 (fun _=>rfl) (j) lt51
   simp only[Value.slice.injEq,true_and]at hv
   obtain⟨rfl,rfl⟩:=hv
   obtain⟨z52,hx50⟩:∃z,us[j]=z:=⟨_,rfl⟩
   rw[hx50]at hr49
   obtain⟨z52a,z52l⟩:=z52
   have hmem:(⟨z52a,z52l⟩:TreeD)∈us:=hx50▸List.getElem_mem lt51
   have hnd:IsNodes K u1 (.slice z52a z52l.length z52l.length) z52l:=hus.2 _ hmem
   have S:=S.view0 hb53 hr49
   refine Sx.run S 5 [.idx j us.length,.mem 0 0] [(13,.int .i64 ((j:Nat):Int)),(14,.slice z52a z52l.length z52l.length)] (hk:=⟨lt51,trivial⟩) fun ac S=>Sx.done<|κ45 _ _<|Sx.seqP fun _ κ54=>Sx.run S 3 [] [(55,.slice z52a z52l.length z52l.length),(56,.int .i64 ((z52l.length:Nat):Int)),(57,.int .i64 0)] fun ac S=>Sx.done<|κ54 _ _<|wp_block ?_
   have hjl:=lt51
   have hpz:pl+z52l.length≤m.length:=by have:=offs_le (j:=j+1) hfl6; rw[offs_step hjl hx50]at this; rw[hO3]; exact this
   refine Vp.loop (ι:=Nat×Nat×Value×List EditD) (fun p a' w'=>p.1≤z52l.length∧((∀e∈p.2.2.2,EdFit K e)∧p.2.2.2.map EditD.key=es2.map EditD.key++(if pp≤j∧j<us.length-q then insertsK pl ((keys z52l).take p.1)else [])∧p.2.1=pl+p.1∧p.2.2.2.length≤X.length+p.2.1)∧Sx.Rw u1 w' [] [⟨45,55,p.2.2.1,p.2.2.2.length,p.2.2.2.flatMap EditD.cells⟩]∧Sx.Ow u1.heap.size (Sx.Ob [] [⟨45,55,p.2.2.1,p.2.2.2.length,p.2.2.2.flatMap EditD.cells⟩]) (fun W=>∀e∈p.2.2.2,e.node.okT u1.heap.size W) w'∧Sx.St u1 a' w' 84 [(0,.slice a l.length cap),(1,.slice d m.length cap'),(4,.slice none 0 0),(5,.slice a5 ts.length c5),(6,.slice (some ⟨b46,o47,none⟩) us.length c6),(7,.int .i64 ((pp:Nat):Int)),(8,.int .i64 ((q:Nat):Int)),(9,p.2.2.1),(12,.int .i64 ((p.2.1:Nat):Int)),(13,.int .i64 ((j:Nat):Int)),(14,.slice z52a z52l.length z52l.length),(33,.slice a33 X.length c33),(34,.int .i64 ((X.length:Nat):Int)),(48,.slice (some ⟨b46,o47,none⟩) us.length c6),(49,.int .i64 ((us.length:Nat):Int)),(50,.int .i64 ((j:Nat):Int)),(55,.slice z52a z52l.length z52l.length),(56,.int .i64 ((z52l.length:Nat):Int)),(57,.int .i64 ((p.1:Nat):Int))] [] []) (fun p=>z52l.length-p.1) (0,pl,v2,es2) ⟨Nat.zero_le _,⟨hO1,(by simp[insertsK]),rfl,hO4⟩,R,hF_M,(S.sub [(0,.slice a l.length cap),(1,.slice d m.length cap'),(4,.slice none 0 0),(5,.slice a5 ts.length c5),(6,.slice (some ⟨b46,o47,none⟩) us.length c6),(7,.int .i64 ((pp:Nat):Int)),(8,.int .i64 ((q:Nat):Int)),(9,v2),(12,.int .i64 ((pl:Nat):Int)),(13,.int .i64 ((j:Nat):Int)),(14,.slice z52a z52l.length z52l.length),(33,.slice a33 X.length c33),(34,.int .i64 ((X.length:Nat):Int)),(48,.slice (some ⟨b46,o47,none⟩) us.length c6),(49,.int .i64 ((us.length:Nat):Int)),(50,.int .i64 ((j:Nat):Int)),(55,.slice z52a z52l.length z52l.length),(56,.int .i64 ((z52l.length:Nat):Int)),(57,.int .i64 ((0:Nat):Int))]).noviews⟩ ?_
   rintro⟨i,pl2,v3,es3⟩ ac u hI
   try dsimp only at hI
   obtain⟨hk,hR,R,hF_M,S⟩:=hI
   obtain⟨hI1,hI2,hI3,hI4⟩:=hR
   refine Sx.seqP fun _ κ55=>Sx.run S 1 [] [(58,.bool (decide (((i:Nat):Int)<((z52l.length:Nat):Int))))] fun ac S=>Sx.done<|κ55 _ _<|wp_seq_k (fun _ κ56=>?_)
   refine Sx.cond S (fun hc57=>?_) (fun hc57=>?_)
   ·refine wp_skip<|κ56 _ _<|wp_seq_k fun _ κ58=>wp_block<|Sx.seqP (fun _ κ59=>?_)
    have lt65:i<z52l.length:=by have:=of_decide_eq_true hc57; omega
    obtain⟨b60,o61,c62,hv,hb67,hr63⟩:=Vp.rowN_range2 hnd.1 (fun _=>rfl) (i) lt65
    simp only[Value.slice.injEq,true_and]at hv
    obtain⟨rfl,rfl⟩:=hv
    obtain⟨n66,hx64⟩:∃z,z52l[i]=z:=⟨_,rfl⟩
    rw[hx64]at hr63
    have S:=S.view0 hb67 hr63
    refine Sx.run S 2 [.idx i z52l.length,.mem 0 0] [(60,n66.v)] (hk:=⟨lt65,trivial⟩) fun ac S=>Sx.newp S 16 (Sx.L [.int .i64 0,.int .i64 0,.int .i64 0]++Sx.za++Sx.L [.slice none 0 0,.int .i64 0,.int .u8 0,.int .i64 0,.bool false,.bool false,.slice none 0 0,.int .i64 0,.slice none 0 0,.int .i64 0,.int .i64 0,.int .i64 0,.int .i64 0,.slice none 0 0,.int .i64 0,.slice none 0 0,.int .i64 0,.int .i64 0,.slice none 0 0,.int .i64 0]) fun ac u b68 E69 hb70 S=>Sx.store S 0 (off:=0) (cs:=n66.cells) rfl fun u C71 S=>Sx.done<|κ59 _ _<|wp_seq_k fun _ κ72=>Sx.seqP fun _ κ73=>Sx.run S 11 [.re 69 (.int .i64 (IntKind.i64.wrap (((us.length:Nat):Int)-((q:Nat):Int)))) (.int .i64 ((us.length-q:Nat):Int))] [(71,.bool ((decide (((pp:Nat):Int)≤((j:Nat):Int)))&&(decide (((j:Nat):Int)<((us.length-q:Nat):Int)))))] (hk:=⟨(wrap_sub (by omega) (by omega)),trivial⟩) fun ac S=>Sx.done (κ73 _ _ ?_)
    refine Sx.cond S (fun hc74=>?_) (fun hc74=>?_)
    ·refine Vp.region<|Sx.run S 3 [.mem 0 0] [(72,v3),(73,.int .i64 ((pl2:Nat):Int)),(74,n66.v)] (fun ac S=>?_)
     obtain⟨R,Y75⟩:=R.sync2 S (Sx.Stp.trans (Sx.Stp.boxv E69 hb70) (Sx.Stp.chm C71 (by simp[Sx.vb])))
     have q76:=S.E.size
     have q77:=R.lt
     refine Sx.callG S (some 75) (clone_any ((hnd.2 _ (hx64▸List.getElem_mem lt65)).1.below S.E) (hlt _ hmem _ (hx64▸List.getElem_mem lt65))) ?_
     rintro e u ⟨c,rfl,hcm,hcs,E78⟩
     refine⟨_,rfl,E78,fun ac S=>?_⟩
     obtain⟨R,Y79⟩:=R.sync2 S (Sx.Stp.ext E78)
     have G80:=Sx.On.imp (Sx.Dep.ow hcm q76 q77) fun _ h=>okT_le h q76
     refine Sx.run S 1 [] [(76,.agg (Sx.L [.int .i64 1,.int .i64 0,.int .i64 ((pl2:Nat):Int),.int .i64 0]++c.cells++Sx.L [.int .u8 0,.int .u8 0,.int .u8 0,.int .u8 0]).toArray)] fun ac S=>Sx.news S 77 1 (Sx.L [.int .i64 1,.int .i64 0,.int .i64 ((pl2:Nat):Int),.int .i64 0]++c.cells++Sx.L [.int .u8 0,.int .u8 0,.int .u8 0,.int .u8 0]) (fun ac u b81 E82 hb83 S=>?_)
     have hel:=hI4
     obtain⟨R,Y84⟩:=R.sync2 S (Sx.Stp.boxv E82 hb83)
     refine Sx.app S R 0 78 rfl tyEdit (Sx.raw_bx (m:=1) (k:=55) (A:=(Sx.L [.int .i64 1,.int .i64 0,.int .i64 ((pl2:Nat):Int),.int .i64 0]++c.cells++Sx.L [.int .u8 0,.int .u8 0,.int .u8 0,.int .u8 0])) (S.bx 0)) (by show es3.length+1≤9223372036854775807; omega) (by show(es3.length+1)*696≤140737488355328; omega) fun ac u v85 X86 R S=>Sx.run S 1 [] [(9,v85)] fun ac S=>Sx.done<|κ72 _ _<|Vp.region<|Sx.run S 3 [.re 80 (.int .i64 (IntKind.i64.wrap (((pl2:Nat):Int)+1))) (.int .i64 (((pl2+1):Nat):Int))] [(12,.int .i64 (((pl2+1):Nat):Int))] (hk:=⟨Sx.wrap_succ (by omega),trivial⟩) fun ac S=>Sx.done<|κ58 _ _<|Vp.region<|Sx.run S 2 [.re 81 (.int .i64 (IntKind.i64.wrap (((i:Nat):Int)+1))) (.int .i64 (((i+1):Nat):Int))] [(57,.int .i64 (((i+1):Nat):Int))] (hk:=⟨Sx.wrap_succ (by omega),trivial⟩) fun ac S=>Sx.done ?_
     have S:=S.dropB 2
     obtain⟨R,Y87⟩:=R.sync2 S (Sx.Stp.dropv 2)
     show ∃i',_∧_
     exact⟨((i+1),(pl2+1),v85,(es3++[(⟨1,0,((pl2:Nat):Int),0,c,.none⟩:EditD)])),⟨by omega,⟨eds_snoc hI1 ⟨(show I64 1 by decide),(show I64 0 by decide),(show I64 ((pl2:Nat):Int)from⟨by omega,by omega⟩),(show I64 0 by decide),fitL_strip ⟨fitK_of (hnd.2 _ (hx64▸List.getElem_mem lt65)),hlt _ hmem _ (hx64▸List.getElem_mem lt65)⟩ hcs⟩,by rw[if_pos (by simpa using hc74),ins_step lt65 hx64,←List.append_assoc]; rw[if_pos (by simpa using hc74)]at hI2; exact ekeys_snoc hI2 (by show(EditK.mk 1 0 ((pl2:Nat):Int) 0 c.key _)=_; rw[key_of_strip' hcs,hI3]; rfl),by rw[hI3]; rfl,elen_snoc hI4⟩,R.as (show [(⟨45,55,v85,es3.length+1,(es3.flatMap EditD.cells++(Sx.L [.int .i64 1,.int .i64 0,.int .i64 ((pl2:Nat):Int),.int .i64 0]++c.cells++Sx.L [.int .u8 0,.int .u8 0,.int .u8 0,.int .u8 0]))⟩:Sx.Row)]=[⟨45,55,v85,(es3++[(⟨1,0,((pl2:Nat):Int),0,c,.none⟩:EditD)]).length,(es3++[(⟨1,0,((pl2:Nat):Int),0,c,.none⟩:EditD)]).flatMap EditD.cells⟩] by rw[List.length_append,List.flatMap_append,List.flatMap_singleton]; rfl),Sx.On.imp (Sx.On.and (Sx.On.step hF_M (Sx.Stp.trans Y75 (Sx.Stp.trans Y79 (Sx.Stp.trans Y84 (Sx.Stp.trans X86 Y87))))) (Sx.On.step G80 (Sx.Stp.trans Y84 (Sx.Stp.trans X86 Y87)))) fun _ h=>eds_snoc h.1 h.2,(S.sub [(0,.slice a l.length cap),(1,.slice d m.length cap'),(4,.slice none 0 0),(5,.slice a5 ts.length c5),(6,.slice (some ⟨b46,o47,none⟩) us.length c6),(7,.int .i64 ((pp:Nat):Int)),(8,.int .i64 ((q:Nat):Int)),(9,v85),(12,.int .i64 (((pl2+1):Nat):Int)),(13,.int .i64 ((j:Nat):Int)),(14,.slice (some ⟨b60,o61,none⟩) z52l.length z52l.length),(33,.slice a33 X.length c33),(34,.int .i64 ((X.length:Nat):Int)),(48,.slice (some ⟨b46,o47,none⟩) us.length c6),(49,.int .i64 ((us.length:Nat):Int)),(50,.int .i64 ((j:Nat):Int)),(55,.slice (some ⟨b60,o61,none⟩) z52l.length z52l.length),(56,.int .i64 ((z52l.length:Nat):Int)),(57,.int .i64 (((i+1):Nat):Int))]).noviews⟩,by show _-_<_-_; omega⟩
    ·refine wp_skip<|κ72 _ _<|Vp.region<|Sx.run S 3 [.re 80 (.int .i64 (IntKind.i64.wrap (((pl2:Nat):Int)+1))) (.int .i64 (((pl2+1):Nat):Int))] [(12,.int .i64 (((pl2+1):Nat):Int))] (hk:=⟨Sx.wrap_succ (by omega),trivial⟩) fun ac S=>Sx.done<|κ58 _ _<|Vp.region<|Sx.run S 2 [.re 81 (.int .i64 (IntKind.i64.wrap (((i:Nat):Int)+1))) (.int .i64 (((i+1):Nat):Int))] [(57,.int .i64 (((i+1):Nat):Int))] (hk:=⟨Sx.wrap_succ (by omega),trivial⟩) fun ac S=>Sx.done ?_
     obtain⟨R,Y88⟩:=R.sync2 S (Sx.Stp.trans (Sx.Stp.boxv E69 hb70) (Sx.Stp.chm C71 (by simp[Sx.vb])))
     have S:=S.dropB 1
     obtain⟨R,Y89⟩:=R.sync2 S (Sx.Stp.dropv 1)
     show ∃i',_∧_
     exact⟨((i+1),(pl2+1),v3,es3),⟨by omega,⟨hI1,by rw[hI2,if_neg (by simpa using hc74),if_neg (by simpa using hc74)],by rw[hI3]; rfl,Nat.le_succ_of_le hI4⟩,R,(Sx.On.step hF_M (Sx.Stp.trans Y88 Y89)),(S.sub [(0,.slice a l.length cap),(1,.slice d m.length cap'),(4,.slice none 0 0),(5,.slice a5 ts.length c5),(6,.slice (some ⟨b46,o47,none⟩) us.length c6),(7,.int .i64 ((pp:Nat):Int)),(8,.int .i64 ((q:Nat):Int)),(9,v3),(12,.int .i64 (((pl2+1):Nat):Int)),(13,.int .i64 ((j:Nat):Int)),(14,.slice (some ⟨b60,o61,none⟩) z52l.length z52l.length),(33,.slice a33 X.length c33),(34,.int .i64 ((X.length:Nat):Int)),(48,.slice (some ⟨b46,o47,none⟩) us.length c6),(49,.int .i64 ((us.length:Nat):Int)),(50,.int .i64 ((j:Nat):Int)),(55,.slice (some ⟨b60,o61,none⟩) z52l.length z52l.length),(56,.int .i64 ((z52l.length:Nat):Int)),(57,.int .i64 (((i+1):Nat):Int))]).noviews⟩,by show _-_<_-_; omega⟩
   ·refine wp_exit<|κ44 _ _ ?_
    have hi:i=z52l.length:=by have:=of_decide_eq_false hc57; omega
    refine Vp.region<|Sx.run S 2 [.re 82 (.int .i64 (IntKind.i64.wrap (((j:Nat):Int)+1))) (.int .i64 (((j+1):Nat):Int))] [(50,.int .i64 (((j+1):Nat):Int))] (hk:=⟨Sx.wrap_succ (by omega),trivial⟩) fun ac S=>Sx.done ?_
    show ∃i',_∧_
    exact⟨((j+1),pl2,v3,es3),⟨by omega,⟨hI1,by rw[insB_tk hjl hx50,←List.append_assoc,←hO2,hI2,hi,List.take_of_length_le (by simp),hO3],by rw[hI3,hi,hO3,offs_step hjl hx50],hI4⟩,R,hF_M,(S.sub [(0,.slice a l.length cap),(1,.slice d m.length cap'),(4,.slice none 0 0),(5,.slice a5 ts.length c5),(6,.slice (some ⟨b46,o47,none⟩) us.length c6),(7,.int .i64 ((pp:Nat):Int)),(8,.int .i64 ((q:Nat):Int)),(9,v3),(12,.int .i64 ((pl2:Nat):Int)),(33,.slice a33 X.length c33),(34,.int .i64 ((X.length:Nat):Int)),(48,.slice (some ⟨b46,o47,none⟩) us.length c6),(49,.int .i64 ((us.length:Nat):Int)),(50,.int .i64 (((j+1):Nat):Int))]).noviews⟩,by show _-_<_-_; omega⟩
  ·refine wp_exit<|κ39 _ _<|Sx.seqP fun _ κ90=>Sx.run S 2 [] [(4,v2)] fun ac S=>Sx.done<|κ90 _ _<|Vp.rt ?_
   have hF:=hF_M
   obtain rfl:j=us.length:=by have:=of_decide_eq_false hc43; omega
   have hkeys:es2.map EditD.key=rebuiltK (keys l) (keys m):=by
    unfold rebuiltK
    rw[hO2,hrk5,hrk6,hp,hq,rem_mid hX,←insB_all,List.length_map]
   have hol:=offs_le (j:=us.length) hfl6
   have hxl:X.length≤l.length:=by omega
   refine Sx.ret1 S Tryz.results74 ?_
   exact⟨_,es2,rfl,EdsOwn.le ⟨R.own _ List.mem_cons_self,hF.mono fun i hi=>⟨hi.1,fun e=>hi.2 (Sx.mem_ob_row List.mem_cons_self e)⟩⟩ E01.size,hO1,hkeys,by omega,Ext.trans' E01 S.E⟩
theorem like_len{l m:List NodeD}(h:likeK (keys l) (keys m)=true):l.length=m.length:=by
 rw[like_shp]at h
 have:=congrArg List.length (of_decide_eq_true h)
 simpa using this
theorem eds_app{P:EditD→Prop}{A B:List EditD}(h:∀p∈A,P p)(k:∀p∈B,P p):∀p∈A++B,P p:=fun p hp=>(List.mem_append.1 hp).elim (h p) (k p)
theorem df_ok{s t:SceneD}{E0 es:List EditD}{L:List EditK}(h1:¬(s.key.valid=false∨t.key.valid=false))(h2:¬(s.w≠t.w∨s.h≠t.h))(h3:E0.map EditD.key=bgK s.key t.key)(h4:(if likeK (keys s.ns) (keys t.ns)=true then replacedK (keys s.ns) (keys t.ns)else rebuiltK (keys s.ns) (keys t.ns))=L)(h5:es.map EditD.key=L):((E0++es).map EditD.key,(0:Int))=diffE s.key t.key:=by
 unfold diffE
 rw[if_neg h1,if_neg (show ¬(s.key.w≠t.key.w∨s.key.h≠t.key.h)from h2),List.map_append,h3,h5,←h4]; rfl
theorem bg_yes{s t:SceneD}(h:(!decide (s.bg=t.bg))=true):[(⟨5,0,0,0,nodeD0,t.bg⟩:EditD)].map EditD.key=bgK s.key t.key:=by
 unfold bgK
 rw[if_neg (show ¬s.key.bg=t.key.bg from(show ¬s.bg=t.bg by simpa using h))]; rfl
theorem bg_no{s t:SceneD}(h:(!decide (s.bg=t.bg))=false):([]:List EditD).map EditD.key=bgK s.key t.key:=by
 unfold bgK
 rw[if_pos (show s.key.bg=t.key.bg from(show s.bg=t.bg by simpa using h))]; rfl
theorem scDiff_any{w:World}{s t:SceneD}(h:SceneOk K w s)(h':SceneOk K w t)(hg:GlobOk w)(hlim':∀n∈t.ns,n.lim)(hK1:1≤K)(hK2:K≤10000) :
  Calls Tryz.prog 43 #[s.v,t.v] w fun e w'=>∃(v':Value) (es:List EditD) (code:Int),e = .returned (.tuple #[v',.int .i64 code])∧EdsOwn w.heap.size v' es w'∧(∀e∈es,EdFit K e)∧(es.map EditD.key,code)=diffE s.key t.key∧es.length≤300000∧Ext w w':=by
 skip
 refine Sx.enter Tryz.func43 Tryz.ntmps43 fun ac S=>Sx.seqP fun _ κ1=>Sx.newp S 2 s.cells fun ac u b2 E3 hb4 S=>Sx.newp S 3 t.cells fun ac u b5 E6 hb7 S=>Sx.run S 2 [] [(4,.slice none 0 0),(5,.int .i64 0)] fun ac S=>Sx.done<|κ1 _ _<|wp_seq_k fun _ κ8=>Sx.seqP fun _ κ9=>Sx.run S 1 [.mem 1 0] [(7,s.v)] fun ac S=>Sx.callv S 8 (scValid_any (K:=K) (s:=s) (h.below S.E) (hg.below S.E)) fun ac u E10 S=>Sx.runC S 6 [.mem 0 0] [(_,_,(!(!s.key.valid)),.bool t.key.valid)] [(14,.bool ((!s.key.valid)||(!t.key.valid)))] ⟨fun u hC g=>scValid_any (K:=K) (s:=t) (h'.below (Ext.trans' S.E hC)) (hg.below (Ext.trans' S.E hC)),trivial⟩ fun ac u E11 S=>Sx.done (κ9 _ _ ?_)
 refine Sx.cond S (fun hc12=>?_) (fun hc12=>?_)
 ·refine Sx.seqP fun _ κ13=>Sx.run S 2 [] [(4,.slice none 0 0),(5,.int .i64 18)] fun ac S=>Sx.done<|κ13 _ _<|Vp.rt ?_
  refine Sx.ret2 S Tryz.results43 ?_
  exact⟨_,[],18,rfl,EdsOwn.nil,(fun e he=>by cases he),by unfold diffE; rw[if_pos (by simpa using hc12)]; rfl,Nat.zero_le _,S.E⟩
 ·refine wp_skip<|κ8 _ _<|wp_seq_k fun _ κ14=>Sx.seqP fun _ κ15=>Sx.run S 12 [.mem 1 0,.mem 0 0,.mem 1 1,.mem 0 1] [(26,.bool (((s.w) != t.w)||((s.h) != t.h)))] fun ac S=>Sx.done (κ15 _ _ ?_)
  refine Sx.cond S (fun hc16=>?_) (fun hc16=>?_)
  ·refine Sx.seqP fun _ κ17=>Sx.run S 2 [] [(4,.slice none 0 0),(5,.int .i64 2)] fun ac S=>Sx.done<|κ17 _ _<|Vp.rt ?_
   refine Sx.ret2 S Tryz.results43 ?_
   exact⟨_,[],2,rfl,EdsOwn.nil,(fun e he=>by cases he),by unfold diffE; rw[if_neg (by have:=hc12; simp at this; simp[this]),if_pos (show s.key.w≠t.key.w∨s.key.h≠t.key.h from(show s.w≠t.w∨s.h≠t.h by simpa using hc16))]; rfl,Nat.zero_le _,S.E⟩
  ·refine wp_skip<|κ14 _ _<|Sx.seqP (fun _ κ18=>?_)
   have hv1:¬(s.key.valid=false∨t.key.valid=false):=by have:=hc12; simp at this; simp[this]
   have hv2:¬(s.w≠t.w∨s.h≠t.h):=by have:=hc16; simp at this; simp[this]
   have hsl:s.ns.length≤64:=valid_len (by have:=hc12; simp at this; exact this.1)
   have htl:t.ns.length≤64:=valid_len (by have:=hc12; simp at this; exact this.2)
   refine Sx.run S 1 [] [(6,.slice none 0 0)] fun ac S=>Sx.done<|κ18 _ _<|wp_seq_k fun _ κ19=>Sx.seqP fun _ κ20=>Sx.run S 5 [.mem 1 2,.mem 0 2,.cmp .neq 23 (.tmp 28) (.tmp 30) (.agg #[.int .u8 (s.bg.r.toNat:Int),.int .u8 (s.bg.g.toNat:Int),.int .u8 (s.bg.b.toNat:Int),.int .u8 (s.bg.a.toNat:Int)]) (.agg #[.int .u8 (t.bg.r.toNat:Int),.int .u8 (t.bg.g.toNat:Int),.int .u8 (t.bg.b.toNat:Int),.int .u8 (t.bg.a.toNat:Int)]) (.bool (!decide (s.bg=t.bg)))] [(31,.bool (!decide (s.bg=t.bg)))] (hk:=⟨(Sx.cmp_agg (fun _=>col_ne s.bg t.bg _) (by kernel_rfl)),trivial⟩) fun ac S=>Sx.done (κ20 _ _ ?_)
   refine Sx.cond S (fun hc21=>?_) (fun hc21=>?_)
   ·have R:=Sx.Rw.nil S
    have R:=erow_nil R
    refine Vp.region<|Sx.run S 4 [.mem 0 2] [(32,.slice none 0 0),(35,.agg (Sx.L [.int .i64 5,.int .i64 0,.int .i64 0,.int .i64 0,.int .i64 0,.int .i64 0,.int .i64 0]++Sx.za++Sx.L [.slice none 0 0,.int .i64 0,.int .u8 0,.int .i64 0,.bool false,.bool false,.slice none 0 0,.int .i64 0,.slice none 0 0,.int .i64 0,.int .i64 0,.int .i64 0,.int .i64 0,.slice none 0 0,.int .i64 0,.slice none 0 0,.int .i64 0,.int .i64 0,.slice none 0 0,.int .i64 0]++t.bg.cells).toArray)] fun ac S=>Sx.news S 36 1 (Sx.L [.int .i64 5,.int .i64 0,.int .i64 0,.int .i64 0,.int .i64 0,.int .i64 0,.int .i64 0]++Sx.za++Sx.L [.slice none 0 0,.int .i64 0,.int .u8 0,.int .i64 0,.bool false,.bool false,.slice none 0 0,.int .i64 0,.slice none 0 0,.int .i64 0,.int .i64 0,.int .i64 0,.int .i64 0,.slice none 0 0,.int .i64 0,.slice none 0 0,.int .i64 0,.int .i64 0,.slice none 0 0,.int .i64 0]++t.bg.cells) (fun ac u b22 E23 hb24 S=>?_)
    obtain⟨R,Y25⟩:=R.sync2 S (Sx.Stp.boxv E23 hb24)
    refine Sx.app S R 0 37 rfl tyEdit (Sx.raw_bx (m:=1) (k:=55) (A:=(Sx.L [.int .i64 5,.int .i64 0,.int .i64 0,.int .i64 0,.int .i64 0,.int .i64 0,.int .i64 0]++Sx.za++Sx.L [.slice none 0 0,.int .i64 0,.int .u8 0,.int .i64 0,.bool false,.bool false,.slice none 0 0,.int .i64 0,.slice none 0 0,.int .i64 0,.int .i64 0,.int .i64 0,.int .i64 0,.slice none 0 0,.int .i64 0,.slice none 0 0,.int .i64 0,.int .i64 0,.slice none 0 0,.int .i64 0]++t.bg.cells)) (S.bx 0)) (by show 0+1≤9223372036854775807; decide) (by show(0+1)*696≤140737488355328; decide) (fun ac u v26 X27 R S=>?_)
    have R:=R.as (show _=[(⟨45,55,v26,1,[(⟨5,0,0,0,nodeD0,t.bg⟩:EditD)].flatMap EditD.cells⟩:Sx.Row)] by rw[List.flatMap_singleton]; rfl)
    refine Sx.run S 1 [] [(6,v26)] fun ac S=>Sx.done<|κ19 _ _<|wp_seq_k fun _ κ28=>Sx.seqP fun _ κ29=>Sx.run S 4 [.mem 2 6,.mem 1 6] [(39,s.s),(41,t.s)] fun ac S=>Sx.callv S 42 (scShape_any (h.2.2.below S.E) (h'.2.2.below S.E)) fun ac u E30 S=>Sx.done (κ29 _ _ ?_)
    refine Sx.cond S (fun hc31=>?_) (fun hc31=>?_)
    ·refine Sx.seqP (fun _ κ32=>?_)
     have hlk:likeK (keys s.ns) (keys t.ns)=true:=hc31
     refine Sx.run S 5 [.mem 2 6,.mem 1 6] [(43,v26),(45,s.s),(47,t.s)] (fun ac S=>?_)
     obtain⟨R,Y33⟩:=R.sync2 S (Sx.Stp.ext E30)
     have q34:=S.E.size
     have q35:=R.lt
     refine Sx.callG S (some 48) (scRepl_any (h.2.2.below S.E) (h'.2.2.below S.E) hlim' (like_len hlk) (by omega)) ?_
     rintro e u ⟨v9,es,rfl,hown,hfit,hkeys,hlen,E36⟩
     refine⟨_,rfl,E36,fun ac S=>?_⟩
     obtain⟨R,Y37⟩:=R.sync2 S (Sx.Stp.ext E36)
     have G38:=Sx.On.imp (Sx.Dep.ow (hown.nodes.mono fun i hi=>hi.1) q34 q35) fun _ h=>fun e he=>okT_le (h e he) q34
     refine Sx.app S R 0 49 rfl tyEdit hown.raw (by show 1+es.length≤9223372036854775807; omega) (by show(1+es.length)*_≤140737488355328; omega) fun ac u v39 X40 R S=>Sx.run S 2 [] [(4,v39),(5,.int .i64 0)] fun ac S=>Sx.done<|κ32 _ _<|Vp.rt ?_
     have hF:=(Sx.On.step G38 X40)
     refine Sx.ret2 S Tryz.results43 ?_
     exact⟨_,[(⟨5,0,0,0,nodeD0,t.bg⟩:EditD)]++es,0,rfl,⟨by rw[List.length_append,List.flatMap_append]; exact R.own _ List.mem_cons_self,(hF.mono fun i hi=>⟨hi.1,fun e=>hi.2 (Sx.mem_ob_row List.mem_cons_self e)⟩).imp fun _ k=>eds_app (fun e he=>by rw[List.mem_singleton.1 he]; exact zero_okT _ _) k⟩,eds_app (fun e he=>by rw[List.mem_singleton.1 he]; exact⟨(show I64 5 by decide),(show I64 0 by decide),(show I64 0 by decide),(show I64 0 by decide),zero_fitL hK1 hK2 w⟩) hfit,df_ok hv1 hv2 (bg_yes hc21) (if_pos hlk) hkeys,by rw[List.length_append]; show 1+es.length≤_; omega,S.E⟩
    ·refine wp_skip<|κ28 _ _<|Sx.seqP fun _ κ41=>Sx.run S 5 [.mem 2 6,.mem 1 6] [(50,v26),(52,s.s),(54,t.s)] (fun ac S=>?_)
     obtain⟨R,Y42⟩:=R.sync2 S (Sx.Stp.ext E30)
     have q43:=S.E.size
     have q44:=R.lt
     refine Sx.callG S (some 55) (scRebuild_any (h.2.2.below S.E) (h'.2.2.below S.E) hlim' (by omega) (by omega) hK1 hK2) ?_
     rintro e u ⟨v9,es,rfl,hown,hfit,hkeys,hlen,E45⟩
     refine⟨_,rfl,E45,fun ac S=>?_⟩
     obtain⟨R,Y46⟩:=R.sync2 S (Sx.Stp.ext E45)
     have G47:=Sx.On.imp (Sx.Dep.ow (hown.nodes.mono fun i hi=>hi.1) q43 q44) fun _ h=>fun e he=>okT_le (h e he) q43
     refine Sx.app S R 0 56 rfl tyEdit hown.raw (by show 1+es.length≤9223372036854775807; omega) (by show(1+es.length)*_≤140737488355328; omega) fun ac u v48 X49 R S=>Sx.run S 2 [] [(4,v48),(5,.int .i64 0)] fun ac S=>Sx.done<|κ41 _ _<|Vp.rt ?_
     have hF:=(Sx.On.step G47 X49)
     refine Sx.ret2 S Tryz.results43 ?_
     exact⟨_,[(⟨5,0,0,0,nodeD0,t.bg⟩:EditD)]++es,0,rfl,⟨by rw[List.length_append,List.flatMap_append]; exact R.own _ List.mem_cons_self,(hF.mono fun i hi=>⟨hi.1,fun e=>hi.2 (Sx.mem_ob_row List.mem_cons_self e)⟩).imp fun _ k=>eds_app (fun e he=>by rw[List.mem_singleton.1 he]; exact zero_okT _ _) k⟩,eds_app (fun e he=>by rw[List.mem_singleton.1 he]; exact⟨(show I64 5 by decide),(show I64 0 by decide),(show I64 0 by decide),(show I64 0 by decide),zero_fitL hK1 hK2 w⟩) hfit,df_ok hv1 hv2 (bg_yes hc21) (if_neg (by simp[hc31])) hkeys,by rw[List.length_append]; show 1+es.length≤_; omega,S.E⟩
   ·refine wp_skip<|κ19 _ _<|wp_seq_k fun _ κ50=>Sx.seqP (fun _ κ51=>?_)
    have R:=Sx.Rw.nil S
    have R:=erow_nil R
    have R:=R.as (show _=[(⟨45,55,.slice none 0 0,0,([]:List EditD).flatMap EditD.cells⟩:Sx.Row)]from rfl)
    refine Sx.run S 4 [.mem 1 6,.mem 0 6] [(39,s.s),(41,t.s)] fun ac S=>Sx.callv S 42 (scShape_any (h.2.2.below S.E) (h'.2.2.below S.E)) fun ac u E52 S=>Sx.done (κ51 _ _ ?_)
    refine Sx.cond S (fun hc53=>?_) (fun hc53=>?_)
    ·refine Sx.seqP (fun _ κ54=>?_)
     have hlk:likeK (keys s.ns) (keys t.ns)=true:=hc53
     refine Sx.run S 5 [.mem 1 6,.mem 0 6] [(43,.slice none 0 0),(45,s.s),(47,t.s)] (fun ac S=>?_)
     obtain⟨R,Y55⟩:=R.sync2 S (Sx.Stp.ext E52)
     have q56:=S.E.size
     have q57:=R.lt
     refine Sx.callG S (some 48) (scRepl_any (h.2.2.below S.E) (h'.2.2.below S.E) hlim' (like_len hlk) (by omega)) ?_
     rintro e u ⟨v9,es,rfl,hown,hfit,hkeys,hlen,E58⟩
     refine⟨_,rfl,E58,fun ac S=>?_⟩
     obtain⟨R,Y59⟩:=R.sync2 S (Sx.Stp.ext E58)
     have G60:=Sx.On.imp (Sx.Dep.ow (hown.nodes.mono fun i hi=>hi.1) q56 q57) fun _ h=>fun e he=>okT_le (h e he) q56
     refine Sx.app S R 0 49 rfl tyEdit hown.raw (by show 0+es.length≤9223372036854775807; omega) (by show(0+es.length)*_≤140737488355328; omega) fun ac u v61 X62 R S=>Sx.run S 2 [] [(4,v61),(5,.int .i64 0)] fun ac S=>Sx.done<|κ54 _ _<|Vp.rt ?_
     have hF:=(Sx.On.step G60 X62)
     refine Sx.ret2 S Tryz.results43 ?_
     exact⟨_,([]:List EditD)++es,0,rfl,⟨by rw[List.length_append,List.flatMap_append]; exact R.own _ List.mem_cons_self,(hF.mono fun i hi=>⟨hi.1,fun e=>hi.2 (Sx.mem_ob_row List.mem_cons_self e)⟩).imp fun _ k=>eds_app (fun e he=>by cases he) k⟩,eds_app (fun e he=>by cases he) hfit,df_ok hv1 hv2 (bg_no hc21) (if_pos hlk) hkeys,by rw[List.length_append]; show 0+es.length≤_; omega,S.E⟩
    ·refine wp_skip<|κ50 _ _<|Sx.seqP fun _ κ63=>Sx.run S 5 [.mem 1 6,.mem 0 6] [(50,.slice none 0 0),(52,s.s),(54,t.s)] (fun ac S=>?_)
     obtain⟨R,Y64⟩:=R.sync2 S (Sx.Stp.ext E52)
     have q65:=S.E.size
     have q66:=R.lt
     refine Sx.callG S (some 55) (scRebuild_any (h.2.2.below S.E) (h'.2.2.below S.E) hlim' (by omega) (by omega) hK1 hK2) ?_
     rintro e u ⟨v9,es,rfl,hown,hfit,hkeys,hlen,E67⟩
     refine⟨_,rfl,E67,fun ac S=>?_⟩
     obtain⟨R,Y68⟩:=R.sync2 S (Sx.Stp.ext E67)
     have G69:=Sx.On.imp (Sx.Dep.ow (hown.nodes.mono fun i hi=>hi.1) q65 q66) fun _ h=>fun e he=>okT_le (h e he) q65
     refine Sx.app S R 0 56 rfl tyEdit hown.raw (by show 0+es.length≤9223372036854775807; omega) (by show(0+es.length)*_≤140737488355328; omega) fun ac u v70 X71 R S=>Sx.run S 2 [] [(4,v70),(5,.int .i64 0)] fun ac S=>Sx.done<|κ63 _ _<|Vp.rt ?_
     have hF:=(Sx.On.step G69 X71)
     refine Sx.ret2 S Tryz.results43 ?_
     exact⟨_,([]:List EditD)++es,0,rfl,⟨by rw[List.length_append,List.flatMap_append]; exact R.own _ List.mem_cons_self,(hF.mono fun i hi=>⟨hi.1,fun e=>hi.2 (Sx.mem_ob_row List.mem_cons_self e)⟩).imp fun _ k=>eds_app (fun e he=>by cases he) k⟩,eds_app (fun e he=>by cases he) hfit,df_ok hv1 hv2 (bg_no hc21) (if_neg (by simp[hc53])) hkeys,by rw[List.length_append]; show 0+es.length≤_; omega,S.E⟩
end Go.Proofs.YtfmkkemfhjkajaaGreatDoor
