/- Package scene: what it asks of scenes. -/
import Derived.Test.YtfmkkemfhjkajaaGreatDoorPk34
import Derived.Test.YtfmkkemfhjkajaaGreatDoorHoist2
import Derived.Test.YtfmkkemfhjkajaaGreatDoorPk22
set_option maxHeartbeats 3200000
set_option maxRecDepth 100000
namespace Go.Proofs.YtfmkkemfhjkajaaGreatDoor
open Go.RowKit
variable{α:Type}{K:Nat}
set_option linter.unusedVariables false
abbrev keys (l:List NodeD):List NodeK:=l.map NodeD.key
theorem depK_keys{l:List NodeD}{i:Nat}(h:i<l.length):depK (keys l) i=l[i].depth:=by
 rw[depK_at (by simpa using h)]; simp[keys,NodeD.key]
/-- A number that is a place. -/
theorem nat_of{z:Int}(h:0≤z):∃i:Nat,z=(i:Int):=⟨z.toNat,by omega⟩
theorem findI_at{l:List NodeD}{id:Int}{k:Nat}(hk:k<l.length)(h:l[k].id=id)(hR:∀(j:Nat) (hj:j<l.length),j<k→l[j].id≠id):findI (keys l) id=(k:Int):=by
 have:findK (keys l) id=some k:=by
  unfold findK
  rw[List.findIdx?_eq_some_iff_getElem]
  refine⟨by simpa using hk,by simpa[keys,NodeD.key]using h,fun j hj=>?_⟩
  have:=hR j (by omega) hj
  simpa[keys,NodeD.key]using this
 unfold findI; rw[this]
theorem findI_none{l:List NodeD}{id:Int}(hR:∀(j:Nat) (hj:j<l.length),l[j].id≠id):findI (keys l) id = -1:=by
 have:findK (keys l) id=none:=by
  unfold findK
  rw[List.findIdx?_eq_none_iff]
  intro κ hκ
  obtain⟨n,hn,rfl⟩:=List.mem_map.1 hκ
  obtain⟨j,hj,rfl⟩:=List.getElem_of_mem hn
  simpa[NodeD.key]using hR j hj
 unfold findI; rw[this]
theorem find_step{l:List NodeD}{id:Int}{k:Nat}(hk:k<l.length)(hR:∀(j:Nat) (hj:j<l.length),j<k→l[j].id≠id)(h:l[k].id≠id):∀(j:Nat) (hj:j<l.length),j<k+1→l[j].id≠id:=fun j hj h1=>by
 by_cases e:j=k
 ·subst e; exact h
 ·exact hR j hj (by omega)
theorem par_no{l:List NodeD}{i j:Nat}(hj:j<l.length)(hi:i<l.length)(h:¬l[j].depth=l[i].depth-1):parTo (depK (keys l)) (depK (keys l) i-1) (j+1)=parTo (depK (keys l)) (depK (keys l) i-1) j:=by
 conv=>lhs; unfold parTo
 rw[if_neg (by rw[depK_keys hj,depK_keys hi]; exact h)]
theorem par_yes{l:List NodeD}{i j:Nat}(hj:j<l.length)(hi:i<l.length)(h:l[j].depth=l[i].depth-1):parTo (depK (keys l)) (depK (keys l) i-1) (j+1)=(j:Int):=by
 unfold parTo
 rw[if_pos (by rw[depK_keys hj,depK_keys hi]; exact h)]
theorem chk_size{s:SceneK}(h:((((decide (s.w<1))||(decide (256<s.w)))||(decide (s.h<1)))||(decide (256<s.h)))=true):s.chk=(6,0):=by
 unfold SceneK.chk
 rw[if_pos (by simpa[or_assoc]using h)]
theorem chk_nodes{s:SceneK}(h:((((decide (s.w<1))||(decide (256<s.w)))||(decide (s.h<1)))||(decide (256<s.h)))=false):s.chk=if 64<s.ns.length then (5,64)else chkFrom [] s.ns:=by
 unfold SceneK.chk
 rw[if_neg (by simpa[or_assoc,and_assoc]using h)]
theorem chkFrom_at{l:List NodeK}{k:Nat}(hk:k<l.length):chkFrom (l.take k) (l.drop k)=if wrongK (l.take k) l[k]=0 then chkFrom (l.take (k+1)) (l.drop (k+1))else (wrongK (l.take k) l[k],(k:Int)):=by
 rw[List.drop_eq_getElem_cons hk,List.take_succ_eq_append_getElem hk]
 conv=>lhs; unfold chkFrom
 rw[List.length_take,Nat.min_eq_left (by omega)]
theorem key_at{l:List NodeD}{k:Nat}(hk:k<l.length){x:NodeD}(hx:l[k]=x):(keys l)[k]'(by simpa using hk)=x.key:=by simp[keys,hx]
theorem any_id(l:List NodeD)(k:Nat)(id:Int):((l.take k).map NodeD.id).any (· == id)=((keys l).take k).any fun κ=>κ.id==id:=by
 rw[←List.map_take,List.any_map,List.any_map]; rfl
/-- What Check has found before node k. -/
structure ChkAt (l:List NodeD) (k:Nat) (m:Int):Prop where
 all:chkFrom [] (keys l)=chkFrom ((keys l).take k) ((keys l).drop k)
 room:m=roomK ((keys l).take k)
theorem ChkAt.start(l:List NodeD):ChkAt l 0 0:=⟨by simp,rfl⟩
theorem ChkAt.bad{l:List NodeD}{k:Nat}{m n:Int}{x:NodeD}(h:ChkAt l k m)(hk:k<l.length)(hx:l[k]=x)(hw:wrongK ((keys l).take k) x.key=n)(hn:n≠0):chkFrom [] (keys l)=(n,(k:Int)):=by
 rw[h.all,chkFrom_at (by simpa using hk),key_at hk hx,hw,if_neg hn]
theorem ChkAt.next{l:List NodeD}{k:Nat}{m m':Int}{x:NodeD}(h:ChkAt l k m)(hk:k<l.length)(hx:l[k]=x)(hw:wrongK ((keys l).take k) x.key=0)(hm:m'=if x.kind=1 then x.depth+1 else x.depth):ChkAt l (k+1) m':=by
 have hk':k<(keys l).length:=by simpa using hk
 refine⟨?_,?_⟩
 ·rw[h.all,chkFrom_at hk',key_at hk hx,hw,if_pos rfl]
 ·rw[List.take_succ_eq_append_getElem hk',roomK_snoc,key_at hk hx,hm]; rfl
theorem ChkAt.done{l:List NodeD}{k:Nat}{m:Int}(h:ChkAt l k m)(hk:l.length≤k):chkFrom [] (keys l)=(0,0):=by
 rw[h.all,List.drop_eq_nil_of_le (by simpa using hk)]; rfl
theorem wrong_node{pre:List NodeK}{x:NodeD}(h:x.checkN≠0):wrongK pre x.key=x.checkN:=by rw[←chk_key]at h ⊢; exact wrongK_chk h
theorem wrong_dup{pre:List NodeK}{x:NodeD}(h:x.checkN=0)(h2:pre.any (fun κ=>κ.id==x.id)=true):wrongK pre x.key=7:=by
 unfold wrongK
 rw[chk_key,h,if_neg (by simp),if_pos (show(pre.any fun κ=>κ.id==x.key.id)=true from h2)]
theorem wrong_depth{pre:List NodeK}{x:NodeD}(h:x.checkN=0)(h2:pre.any (fun κ=>κ.id==x.id)=false)(h3:roomK pre<x.depth):wrongK pre x.key=17:=by
 unfold wrongK
 rw[chk_key,h,if_neg (by simp),if_neg (by rw[show x.key.id=x.id from rfl,h2]; simp),if_neg (by show ¬x.depth≤_; omega)]
theorem wrong_no{pre:List NodeK}{x:NodeD}(h:x.checkN=0)(h2:pre.any (fun κ=>κ.id==x.id)=false)(h3:x.depth≤roomK pre):wrongK pre x.key=0:=by
 unfold wrongK
 rw[chk_key,h,if_neg (by simp),if_neg (by rw[show x.key.id=x.id from rfl,h2]; simp),if_pos (by exact h3)]
theorem zero_bool(w:World):(zeroValue 4).run Tryz.prog w = .ok (.bool false) w:=Sx.ev0_run (by kernel_rfl)
theorem scEnd_any{w:World}{v:Value}{l:List NodeD}(h:IsRowN 47 NodeD.cells w v l){i:Nat}(hi:i<l.length){z:Int}(hz:z=(i:Int)){r:Nat}(hr:r=endK (keys l) i) :
  Calls Tryz.prog 58 #[v,.int .i64 z] w fun e w'=>e = .returned (.int .i64 ((r:Nat):Int))∧Ext w w':=by
 subst hz hr
 obtain⟨a,cap,rfl⟩:=h.shape
 have hmax:l.length≤9223372036854775807:=h.len
 refine Sx.enter Tryz.func58 Tryz.ntmps58 fun ac S=>Sx.seqP fun _ κ1=>Sx.run S 1 [] [(4,.int .i64 0)] fun ac S=>Sx.done<|κ1 _ _<|Sx.seqP fun _ κ2=>Sx.run S 3 [.re 7 (.int .i64 (IntKind.i64.wrap (((i:Nat):Int)+1))) (.int .i64 (((i+1):Nat):Int))] [(5,.int .i64 (((i+1):Nat):Int))] (hk:=⟨Sx.wrap_succ (by omega),trivial⟩) fun ac S=>Sx.done<|κ2 _ _<|wp_seq_k fun _ κ3=>wp_block ?_
 refine Vp.loop (ι:=Nat) (fun p a' w'=>(i<p∧p≤l.length∧∀j,i<j→j<p→depK (keys l) i<depK (keys l) j)∧Sx.St w a' w' 28 [(0,.slice a l.length cap),(1,.int .i64 ((i:Nat):Int)),(4,.int .i64 0),(5,.int .i64 ((p:Nat):Int))] [] []) (fun p=>l.length-p) ((i+1)) ⟨⟨by omega,by omega,fun j h1 h2=>by omega⟩,(S.sub [(0,.slice a l.length cap),(1,.int .i64 ((i:Nat):Int)),(4,.int .i64 0),(5,.int .i64 (((i+1):Nat):Int))]).noviews⟩ ?_
 rintro k ac u hI
 try dsimp only at hI
 obtain⟨hR,S⟩:=hI
 refine wp_seq_k fun _ κ4=>wp_seq_k (fun _ κ5=>?_)
 rcases Nat.lt_or_ge k l.length with hk | hk
 ·have ek:decide (((k:Nat):Int)<((l.length:Nat):Int))=true:=decide_eq_true (by omega)
  obtain⟨b1,o1,c1,hv1,hb1,hr1⟩:=Vp.rowN_range2 h (fun _=>rfl) i hi
  simp only[Value.slice.injEq,true_and]at hv1
  obtain⟨rfl,rfl⟩:=hv1
  obtain⟨b2,o2,c2,hv2,hb2,hr2⟩:=Vp.rowN_range2 h (fun _=>rfl) k hk
  simp only[Value.slice.injEq,Option.some.injEq,Addr.mk.injEq,true_and,and_true]at hv2
  obtain⟨⟨rfl,rfl⟩,rfl⟩:=hv2
  obtain⟨x,hx⟩:∃z,l[i]=z:=⟨_,rfl⟩
  rw[hx]at hr1
  obtain⟨y,hy⟩:∃z,l[k]=z:=⟨_,rfl⟩
  rw[hy]at hr2
  have S:=S.view0 hb1 hr1
  have S:=S.view0 hb2 hr2
  refine Sx.draw S 17 [.re 11 (.bool (decide (((k:Nat):Int)<((l.length:Nat):Int)))) (.bool true),.idx k l.length,.mem 0 2,.idx i l.length,.mem 1 2] [] [(24,.bool (decide (x.depth<y.depth)))] trivial (hk:=⟨(congrArg Value.bool ek),hk,hi,trivial⟩) fun ac u E6 S=>Sx.done (κ5 _ _ ?_)
  refine Sx.cond S (fun hc7=>?_) (fun hc7=>?_)
  ·refine wp_skip<|κ4 _ _<|wp_block<|Vp.region<|Sx.run S 3 [.re 26 (.int .i64 (IntKind.i64.wrap (((k:Nat):Int)+1))) (.int .i64 (((k+1):Nat):Int))] [(5,.int .i64 (((k+1):Nat):Int))] (hk:=⟨Sx.wrap_succ (by omega),trivial⟩) fun ac S=>Sx.done ?_
   show ∃i',_∧_
   exact⟨(k+1),⟨⟨by omega,by omega,fun j h1 h2=>by
    by_cases e:j=k
    ·subst e; rw[depK_keys hi,depK_keys hk,hx,hy]; have:=of_decide_eq_true hc7; omega
    ·exact hR.2.2 j h1 (by omega)⟩,(S.sub [(0,.slice (some ⟨b1,o1,none⟩) l.length cap),(1,.int .i64 ((i:Nat):Int)),(4,.int .i64 0),(5,.int .i64 (((k+1):Nat):Int))]).noviews⟩,by show l.length-(k+1)<l.length-k; omega⟩
  ·refine wp_exit<|κ3 _ _<|Sx.seqP fun _ κ8=>Sx.run S 2 [] [(4,.int .i64 ((k:Nat):Int))] fun ac S=>Sx.done<|κ8 _ _<|Vp.rt ?_
   refine Sx.ret1 S Tryz.results58 ?_
   have he:endK (keys l) i=k:=by
    rw[endK_fin (by simpa using hi)]
    exact finN_at (by simpa using hi) hR.1 (by simpa using hR.2.1) hR.2.2 (fun hk=>by rw[depK_keys hi,depK_keys (by simpa using hk),hx,hy]; have:=of_decide_eq_false hc7; omega)
   exact⟨by rw[he],S.E⟩
 ·have ek:decide (((k:Nat):Int)<((l.length:Nat):Int))=false:=decide_eq_false (by omega)
  refine Sx.draw S 17 [.re 11 (.bool (decide (((k:Nat):Int)<((l.length:Nat):Int)))) (.bool false),.dead 13 (.bool false),.dead 14 (.bool false),.dead 15 (.bool false),.dead 16 (.bool false),.dead 17 (.bool false),.dead 18 (.bool false),.dead 19 (.bool false),.dead 20 (.bool false),.dead 21 (.bool false),.dead 22 (.bool false),.dead 23 (.bool false)] [] [(24,.bool false)] trivial (hk:=⟨(congrArg Value.bool ek),trivial⟩) fun ac u E9 S=>Sx.done<|κ5 _ _<|Sx.condF S<|wp_exit<|κ3 _ _<|Sx.seqP fun _ κ10=>Sx.run S 2 [] [(4,.int .i64 ((k:Nat):Int))] fun ac S=>Sx.done<|κ10 _ _<|Vp.rt ?_
  refine Sx.ret1 S Tryz.results58 ?_
  have he:endK (keys l) i=k:=by
   rw[endK_fin (by simpa using hi)]
   exact finN_at (by simpa using hi) hR.1 (by simpa using hR.2.1) hR.2.2 (fun hk2=>by simp at hk2; omega)
  exact⟨by rw[he],S.E⟩
theorem scFind_any{w:World}{v:Value}{l:List NodeD}(h:IsRowN 47 NodeD.cells w v l){id:Int} :
  Calls Tryz.prog 59 #[v,.int .i64 id] w fun e w'=>e = .returned (.int .i64 (findI (keys l) id))∧Ext w w':=by
 obtain⟨a,cap,rfl⟩:=h.shape
 have hmax:l.length≤9223372036854775807:=h.len
 refine Sx.enter Tryz.func59 Tryz.ntmps59 fun ac S=>Sx.seqP fun _ κ1=>Sx.run S 1 [] [(4,.int .i64 0)] fun ac S=>Sx.done<|κ1 _ _<|wp_seq_k fun _ κ2=>Sx.seqP fun _ κ3=>Sx.run S 3 [] [(7,.slice a l.length cap),(8,.int .i64 ((l.length:Nat):Int)),(9,.int .i64 0)] fun ac S=>Sx.done<|κ3 _ _<|wp_block ?_
 refine Vp.loop (ι:=Nat) (fun p a' w'=>p≤l.length∧(∀(j:Nat) (hj:j<l.length),j<p→l[j].id≠id)∧Sx.St w a' w' 20 [(0,.slice a l.length cap),(1,.int .i64 id),(4,.int .i64 0),(7,.slice a l.length cap),(8,.int .i64 ((l.length:Nat):Int)),(9,.int .i64 ((p:Nat):Int))] [] []) (fun p=>l.length-p) (0) ⟨Nat.zero_le _,fun j hj h=>by omega,(S.sub [(0,.slice a l.length cap),(1,.int .i64 id),(4,.int .i64 0),(7,.slice a l.length cap),(8,.int .i64 ((l.length:Nat):Int)),(9,.int .i64 ((0:Nat):Int))]).noviews⟩ ?_
 rintro k ac u hI
 try dsimp only at hI
 obtain⟨hk,hR,S⟩:=hI
 refine Sx.seqP fun _ κ4=>Sx.run S 1 [] [(10,.bool (decide (((k:Nat):Int)<((l.length:Nat):Int))))] fun ac S=>Sx.done<|κ4 _ _<|wp_seq_k (fun _ κ5=>?_)
 refine Sx.cond S (fun hc6=>?_) (fun hc6=>?_)
 ·refine wp_skip<|κ5 _ _<|wp_seq_k fun _ κ7=>wp_block<|Sx.seqP (fun _ κ8=>?_)
  have lt14:k<l.length:=by have:=of_decide_eq_true hc6; omega
  obtain⟨b9,o10,c11,hv,hb16,hr12⟩:=Vp.rowN_range2 h (fun _=>rfl) (k) lt14
  simp only[Value.slice.injEq,true_and]at hv
  obtain⟨rfl,rfl⟩:=hv
  obtain⟨x15,hx13⟩:∃z,l[k]=z:=⟨_,rfl⟩
  rw[hx13]at hr12
  have S:=S.view0 hb16 hr12
  refine Sx.run S 3 [.idx k l.length,.mem 0 0] [(11,.int .i64 ((k:Nat):Int)),(13,x15.v)] (hk:=⟨lt14,trivial⟩) fun ac S=>Sx.newp S 6 (Sx.L [.int .i64 0,.int .i64 0,.int .i64 0]++Sx.za++Sx.L [.slice none 0 0,.int .i64 0,.int .u8 0,.int .i64 0,.bool false,.bool false,.slice none 0 0,.int .i64 0,.slice none 0 0,.int .i64 0,.int .i64 0,.int .i64 0,.int .i64 0,.slice none 0 0,.int .i64 0,.slice none 0 0,.int .i64 0,.int .i64 0,.slice none 0 0,.int .i64 0]) fun ac u b17 E18 hb19 S=>Sx.run S 1 [] [(5,.int .i64 ((k:Nat):Int))] fun ac S=>Sx.store S 0 (off:=0) (cs:=x15.cells) rfl fun u C20 S=>Sx.done<|κ8 _ _<|Sx.seqP fun _ κ21=>Sx.run S 4 [.mem 0 0] [(17,.bool ((x15.id)==id))] fun ac S=>Sx.done (κ21 _ _ ?_)
  refine Sx.cond S (fun hc22=>?_) (fun hc22=>?_)
  ·refine Sx.seqP fun _ κ23=>Sx.run S 2 [] [(4,.int .i64 ((k:Nat):Int))] fun ac S=>Sx.done<|κ23 _ _<|Vp.rt ?_
   refine Sx.ret1 S Tryz.results59 ?_
   exact⟨by rw[findI_at lt14 (by rw[hx13]; simpa using hc22) hR],S.E⟩
  ·refine wp_skip<|κ7 _ _<|Vp.region<|Sx.run S 2 [.re 19 (.int .i64 (IntKind.i64.wrap (((k:Nat):Int)+1))) (.int .i64 (((k+1):Nat):Int))] [(9,.int .i64 (((k+1):Nat):Int))] (hk:=⟨Sx.wrap_succ (by omega),trivial⟩) fun ac S=>Sx.done ?_
   show ∃i',_∧_
   exact⟨(k+1),⟨by omega,(find_step lt14 hR (by rw[hx13]; simpa using hc22)),(S.sub [(0,.slice (some ⟨b9,o10,none⟩) l.length cap),(1,.int .i64 id),(4,.int .i64 0),(7,.slice (some ⟨b9,o10,none⟩) l.length cap),(8,.int .i64 ((l.length:Nat):Int)),(9,.int .i64 (((k+1):Nat):Int))]).noviews.dropB 1⟩,by show _-_<_-_; omega⟩
 ·refine wp_exit<|κ2 _ _<|Sx.seqP fun _ κ24=>Sx.run S 1 [] [(4,.int .i64 (-1))] fun ac S=>Sx.done<|κ24 _ _<|Vp.rt ?_
  refine Sx.ret1 S Tryz.results59 ?_
  have hk:=of_decide_eq_false hc6
  exact⟨by rw[findI_none (fun j hj=>hR j hj (by omega))],S.E⟩
theorem scParent_any{w:World}{v:Value}{l:List NodeD}(h:IsRowN 47 NodeD.cells w v l){i:Nat}(hi:i<l.length)(hd:0≤l[i].depth∧l[i].depth<8){q:Int}(hz:q=(i:Int)) :
  Calls Tryz.prog 70 #[v,.int .i64 q] w fun e w'=>e = .returned (.int .i64 (parN (depK (keys l)) i))∧Ext w w':=by
 subst hz
 obtain⟨a,cap,rfl⟩:=h.shape
 have hmax:l.length≤9223372036854775807:=h.len
 refine Sx.enter Tryz.func70 Tryz.ntmps70 fun ac S=>Sx.seqP fun _ κ1=>Sx.run S 1 [] [(4,.int .i64 0)] fun ac S=>Sx.done<|κ1 _ _<|wp_seq_k fun _ κ2=>Sx.seqP fun _ κ3=>Sx.run S 3 [Sx.kw 7 (((i:Nat):Int)-1)] [(5,.int .i64 (((i:Nat):Int)-1))] (hk:=⟨Sx.kw_ok (by omega),trivial⟩) fun ac S=>Sx.done<|κ3 _ _<|wp_block ?_
 refine Vp.loop (ι:=Int) (fun p a' w'=>(-1≤p∧p<i∧parTo (depK (keys l)) ((depK (keys l)) i-1) i=parTo (depK (keys l)) ((depK (keys l)) i-1) (p+1).toNat)∧Sx.St w a' w' 25 [(0,.slice a l.length cap),(1,.int .i64 ((i:Nat):Int)),(4,.int .i64 0),(5,.int .i64 p)] [] []) (fun p=>(p+1).toNat) ((((i:Nat):Int)-1)) ⟨⟨by omega,by omega,by rw[show((i:Int)-1+1).toNat=i by omega]⟩,(S.sub [(0,.slice a l.length cap),(1,.int .i64 ((i:Nat):Int)),(4,.int .i64 0),(5,.int .i64 (((i:Nat):Int)-1))]).noviews⟩ ?_
 rintro z ac u hI
 try dsimp only at hI
 obtain⟨hR,S⟩:=hI
 refine wp_seq_k fun _ κ4=>Sx.seqP fun _ κ5=>Sx.run S 2 [] [(9,.bool (decide (0≤z)))] fun ac S=>Sx.done (κ5 _ _ ?_)
 refine Sx.cond S (fun hc6=>?_) (fun hc6=>?_)
 ·obtain⟨j,rfl⟩:=nat_of (of_decide_eq_true hc6)
  rw[show((j:Int)+1).toNat=j+1 by omega]at hR
  refine wp_skip<|κ4 _ _<|wp_seq_k fun _ κ7=>wp_block<|wp_seq_k (fun _ κ8=>?_)
  have lt15:j<l.length:=by omega
  obtain⟨b10,o11,c12,hv,hb17,hr13⟩:=Vp.rowN_range2 h (fun _=>rfl) (j) lt15
  simp only[Value.slice.injEq,true_and]at hv
  obtain⟨rfl,rfl⟩:=hv
  obtain⟨x16,hx14⟩:∃z,l[j]=z:=⟨_,rfl⟩
  rw[hx14]at hr13
  have S:=S.view0 hb17 hr13
  have lt23:i<l.length:=by omega
  obtain⟨b18,o19,c20,hv,hb25,hr21⟩:=Vp.rowN_range2 h (fun _=>rfl) (i) lt23
  simp only[Value.slice.injEq,Option.some.injEq,Addr.mk.injEq,true_and,and_true]at hv
  obtain⟨⟨rfl,rfl⟩,rfl⟩:=hv
  obtain⟨x24,hx22⟩:∃z,l[i]=z:=⟨_,rfl⟩
  rw[hx22]at hr21
  have hd0:0≤x24.depth∧x24.depth<8:=hx22▸hd
  have S:=S.view0 hb25 hr21
  refine Sx.draw S 12 [.idx j l.length,.mem 1 2,.idx i l.length,.mem 0 2,Sx.kw 22 (x24.depth-1)] [] [(23,.bool ((x16.depth)==(x24.depth-1)))] trivial (hk:=⟨lt15,lt23,Sx.kw_ok (by omega),trivial⟩) fun ac u E9 S=>Sx.done (κ8 _ _ ?_)
  refine Sx.cond S (fun hc26=>?_) (fun hc26=>?_)
  ·refine Sx.seqP fun _ κ27=>Sx.run S 2 [] [(4,.int .i64 ((j:Nat):Int))] fun ac S=>Sx.done<|κ27 _ _<|Vp.rt ?_
   refine Sx.ret1 S Tryz.results70 ?_
   exact⟨by unfold parN; rw[hR.2.2,par_yes lt15 hi (by rw[hx14,hx22]; simpa using hc26)],S.E⟩
  ·refine wp_skip<|κ7 _ _<|Vp.region<|Sx.run S 3 [Sx.kw 11 (((j:Nat):Int)-1)] [(5,.int .i64 (((j:Nat):Int)-1))] (hk:=⟨Sx.kw_ok (by omega),trivial⟩) fun ac S=>Sx.done ?_
   show ∃i',_∧_
   exact⟨(((j:Nat):Int)-1),⟨⟨by omega,by omega,by rw[hR.2.2,show((j:Int)-1+1).toNat=j by omega]; exact par_no lt15 hi (by rw[hx14,hx22]; simpa using hc26)⟩,(S.sub [(0,.slice (some ⟨b10,o11,none⟩) l.length cap),(1,.int .i64 ((i:Nat):Int)),(4,.int .i64 0),(5,.int .i64 (((j:Nat):Int)-1))]).noviews⟩,by show((j:Int)-1+1).toNat<((j:Int)+1).toNat; omega⟩
 ·refine wp_exit<|κ2 _ _<|Sx.seqP fun _ κ28=>Sx.run S 1 [] [(4,.int .i64 (-1))] fun ac S=>Sx.done<|κ28 _ _<|Vp.rt ?_
  refine Sx.ret1 S Tryz.results70 ?_
  have hz:=of_decide_eq_false hc6
  exact⟨by unfold parN; rw[hR.2.2,show(z+1).toNat=0 by omega]; rfl,S.E⟩
theorem ids_snoc{l:List NodeD}{k:Nat}{x:NodeD}(hk:k<l.length)(hx:l[k]=x):(l.take k).map NodeD.id++[x.id]=(l.take (k+1)).map NodeD.id:=by
 rw[List.take_succ_eq_append_getElem hk,List.map_append,hx]; rfl
theorem scCheck_any{w:World}{s:SceneD}(h:SceneOk K w s)(hg:GlobOk w) :
  Calls Tryz.prog 20 #[s.v] w fun e w'=>e = .returned (.tuple #[.int .i64 s.key.chk.1,.int .i64 s.key.chk.2])∧Ext w w':=by
 have hmax:s.ns.length≤9223372036854775807:=h.2.2.1.len
 refine Sx.enter Tryz.func20 Tryz.ntmps20 (fun ac S=>?_)
 obtain⟨a,cap,es⟩:∃a c,s.s = .slice a s.ns.length c:=⟨_,_,rfl⟩
 have hr:=h.2.2.1
 rw[es]at hr
 refine Sx.seqP fun _ κ1=>Sx.newp S 1 s.cells fun ac u b2 E3 hb4 S=>Sx.run S 2 [] [(2,.int .i64 0),(3,.int .i64 0)] fun ac S=>Sx.done<|κ1 _ _<|wp_seq_k fun _ κ5=>Sx.seqP fun _ κ6=>Sx.run S 18 [.mem 0 0,.mem 0 0,.mem 0 1,.mem 0 1] [(26,.bool ((((decide (s.w<1))||(decide (256<s.w)))||(decide (s.h<1)))||(decide (256<s.h))))] fun ac S=>Sx.done (κ6 _ _ ?_)
 refine Sx.cond S (fun hc7=>?_) (fun hc7=>?_)
 ·refine Sx.seqP fun _ κ8=>Sx.run S 2 [] [(2,.int .i64 6),(3,.int .i64 0)] fun ac S=>Sx.done<|κ8 _ _<|Vp.rt ?_
  refine Sx.ret2 S Tryz.results20 ?_
  exact⟨by rw[chk_size (s:=s.key) hc7],S.E⟩
 ·refine wp_skip<|κ5 _ _<|wp_seq_k fun _ κ9=>Sx.seqP fun _ κ10=>Sx.run S 4 [.mem 0 6,.re 28 s.s (.slice a s.ns.length cap)] [(30,.bool (decide (64<((s.ns.length:Nat):Int))))] (hk:=⟨es,trivial⟩) fun ac S=>Sx.done (κ10 _ _ ?_)
  refine Sx.cond S (fun hc11=>?_) (fun hc11=>?_)
  ·refine Sx.seqP fun _ κ12=>Sx.run S 2 [] [(2,.int .i64 5),(3,.int .i64 64)] fun ac S=>Sx.done<|κ12 _ _<|Vp.rt ?_
   have hq:=chk_nodes (s:=s.key) hc7
   rw[show s.key.ns=keys s.ns from rfl,List.length_map]at hq
   refine Sx.ret2 S Tryz.results20 ?_
   exact⟨by rw[hq,if_pos (by have:=of_decide_eq_true hc11; omega)],S.E⟩
  ·refine wp_skip<|κ9 _ _<|Sx.seqP (fun _ κ13=>?_)
   have hold:=S.E.size
   have hold1:=(S.bx 0).1
   refine Sx.newM S 31 (fun ac u b E0 hb hM S=>?_)
   have R:=Sx.Rw.nil S
   have hbo:w.heap.size≤b∧b≠b2:=⟨by omega,by omega⟩
   have hMo:Sx.Ow _ (Sx.Ob [(b2,s.cells)] []) (fun W=>IdMap Tryz.prog 3 4 W b []) _:=Sx.On.mono (Sx.idMap_on (hM _ _)) fun i hi=>by subst hi; exact⟨hbo.1,by simpa[Sx.Ob]using hbo.2⟩
   refine Sx.run S 1 [] [(4,.map (some b))] fun ac S=>Sx.done<|κ13 _ _<|Sx.seqP fun _ κ14=>Sx.run S 1 [] [(5,.int .i64 0)] fun ac S=>Sx.done<|κ14 _ _<|wp_seq_k fun _ κ15=>Sx.seqP fun _ κ16=>Sx.run S 4 [.mem 0 6,.re 33 s.s (.slice a s.ns.length cap)] [(33,.slice a s.ns.length cap),(34,.int .i64 ((s.ns.length:Nat):Int)),(35,.int .i64 0)] (hk:=⟨es,trivial⟩) fun ac S=>Sx.done<|κ16 _ _<|wp_block ?_
   refine Vp.loop (ι:=Nat×Int) (fun p a' w'=>p.1≤s.ns.length∧(ChkAt s.ns p.1 p.2)∧Sx.Rw w w' [(b2,s.cells)] []∧Sx.Ow w.heap.size (Sx.Ob [(b2,s.cells)] []) (fun W=>IdMap Tryz.prog 3 4 W b ((s.ns.take p.1).map NodeD.id)) w'∧Sx.St w a' w' 67 [(0,s.v),(1,.pointer (some ⟨b2,0,none⟩)),(2,.int .i64 0),(3,.int .i64 0),(4,.map (some b)),(5,.int .i64 p.2),(33,.slice a s.ns.length cap),(34,.int .i64 ((s.ns.length:Nat):Int)),(35,.int .i64 ((p.1:Nat):Int))] [(b2,s.cells)] []) (fun p=>s.ns.length-p.1) (0,0) ⟨Nat.zero_le _,ChkAt.start _,R,hMo,(S.sub [(0,s.v),(1,.pointer (some ⟨b2,0,none⟩)),(2,.int .i64 0),(3,.int .i64 0),(4,.map (some b)),(5,.int .i64 0),(33,.slice a s.ns.length cap),(34,.int .i64 ((s.ns.length:Nat):Int)),(35,.int .i64 ((0:Nat):Int))]).noviews⟩ ?_
   rintro⟨k,m⟩ ac u hI
   try dsimp only at hI
   obtain⟨hk,hR,R,hF_M,S⟩:=hI
   refine Sx.seqP fun _ κ17=>Sx.run S 1 [] [(36,.bool (decide (((k:Nat):Int)<((s.ns.length:Nat):Int))))] fun ac S=>Sx.done<|κ17 _ _<|wp_seq_k (fun _ κ18=>?_)
   refine Sx.cond S (fun hc19=>?_) (fun hc19=>?_)
   ·refine wp_skip<|κ18 _ _<|wp_seq_k fun _ κ20=>wp_block<|Sx.seqP (fun _ κ21=>?_)
    have hMl:=(Sx.On.self (hF_M)).lt
    have lt27:k<s.ns.length:=by have:=of_decide_eq_true hc19; omega
    obtain⟨b22,o23,c24,hv,hb29,hr25⟩:=Vp.rowN_range2 hr (fun _=>rfl) (k) lt27
    simp only[Value.slice.injEq,true_and]at hv
    obtain⟨rfl,rfl⟩:=hv
    obtain⟨x28,hx26⟩:∃z,s.ns[k]=z:=⟨_,rfl⟩
    rw[hx26]at hr25
    have hxo:=h.2.2.2 _ (hx26▸List.getElem_mem lt27)
    have S:=S.view0 hb29 hr25
    refine Sx.run S 3 [.idx k s.ns.length,.mem 1 0] [(37,.int .i64 ((k:Nat):Int)),(39,x28.v)] (hk:=⟨lt27,trivial⟩) fun ac S=>Sx.newp S 7 (Sx.L [.int .i64 0,.int .i64 0,.int .i64 0]++Sx.za++Sx.L [.slice none 0 0,.int .i64 0,.int .u8 0,.int .i64 0,.bool false,.bool false,.slice none 0 0,.int .i64 0,.slice none 0 0,.int .i64 0,.int .i64 0,.int .i64 0,.int .i64 0,.slice none 0 0,.int .i64 0,.slice none 0 0,.int .i64 0,.int .i64 0,.slice none 0 0,.int .i64 0]) fun ac u b30 E31 hb32 S=>Sx.run S 1 [] [(6,.int .i64 ((k:Nat):Int))] fun ac S=>Sx.store S 0 (off:=0) (cs:=x28.cells) rfl (fun u C33 S=>?_)
    have hbn:b≠b30:=by omega
    refine Sx.done<|κ21 _ _<|wp_seq_k fun _ κ34=>Sx.seqP fun _ κ35=>Sx.run S 1 [.mem 0 0] [(40,x28.v)] fun ac S=>Sx.callv S 41 (nodeCheck_any ((h.2.2.2 _ (hx26▸List.getElem_mem lt27)).below S.E) (hg.below S.E)) fun ac u E36 S=>Sx.run S 1 [] [(8,.int .i64 x28.checkN)] fun ac S=>Sx.done<|κ35 _ _<|Sx.seqP fun _ κ37=>Sx.run S 2 [] [(43,.bool ((x28.checkN) != 0))] fun ac S=>Sx.done (κ37 _ _ ?_)
    refine Sx.cond S (fun hc38=>?_) (fun hc38=>?_)
    ·refine Sx.seqP fun _ κ39=>Sx.run S 4 [] [(2,.int .i64 x28.checkN),(3,.int .i64 ((k:Nat):Int))] fun ac S=>Sx.done<|κ39 _ _<|Vp.rt ?_
     have hq:=chk_nodes (s:=s.key) hc7
     rw[show s.key.ns=keys s.ns from rfl,List.length_map]at hq
     refine Sx.ret2 S Tryz.results20 ?_
     rw[if_neg (by have:=of_decide_eq_false hc11; omega)]at hq
     exact⟨by rw[hq,hR.bad lt27 hx26 (wrong_node (by simpa using hc38)) (by simpa using hc38)],S.E⟩
    ·refine wp_skip<|κ34 _ _<|wp_seq_k fun _ κ40=>Sx.seqP fun _ κ41=>Sx.run S 3 [.mem 0 0] [(46,.map (some b)),(48,.int .i64 x28.id)] (fun ac S=>?_)
     obtain⟨R,Y42⟩:=R.sync2 S (Sx.Stp.trans (Sx.Stp.boxv E31 hb32) (Sx.Stp.trans (Sx.Stp.chm C33 (by simp[Sx.vb])) (Sx.Stp.ext E36)))
     have hMn:=Sx.On.self ((Sx.On.step hF_M Y42))
     refine Sx.lookM S 49 hMn Tryz.underlying3 Tryz.underlying4 Tryz.underlying85 (zero_bool _) (hxo.1.1) fun ac S=>Sx.done (κ41 _ _ ?_)
     refine Sx.cond S (fun hc43=>?_) (fun hc43=>?_)
     ·refine Sx.seqP fun _ κ44=>Sx.run S 3 [] [(2,.int .i64 7),(3,.int .i64 ((k:Nat):Int))] fun ac S=>Sx.done<|κ44 _ _<|Vp.rt ?_
      have hq:=chk_nodes (s:=s.key) hc7
      rw[show s.key.ns=keys s.ns from rfl,List.length_map]at hq
      refine Sx.ret2 S Tryz.results20 ?_
      rw[if_neg (by have:=of_decide_eq_false hc11; omega)]at hq
      exact⟨by rw[hq,hR.bad lt27 hx26 (wrong_dup (by simpa using hc38) (by rw[←any_id]; exact hc43)) (by decide)],S.E⟩
     ·refine wp_skip<|κ40 _ _<|wp_seq_k fun _ κ45=>Sx.seqP fun _ κ46=>Sx.run S 4 [.mem 0 2] [(54,.bool (decide (m<x28.depth)))] fun ac S=>Sx.done (κ46 _ _ ?_)
      refine Sx.cond S (fun hc47=>?_) (fun hc47=>?_)
      ·refine Sx.seqP fun _ κ48=>Sx.run S 3 [] [(2,.int .i64 17),(3,.int .i64 ((k:Nat):Int))] fun ac S=>Sx.done<|κ48 _ _<|Vp.rt ?_
       have hq:=chk_nodes (s:=s.key) hc7
       rw[show s.key.ns=keys s.ns from rfl,List.length_map]at hq
       refine Sx.ret2 S Tryz.results20 ?_
       rw[if_neg (by have:=of_decide_eq_false hc11; omega)]at hq
       exact⟨by rw[hq,hR.bad lt27 hx26 (wrong_depth (by simpa using hc38) (by rw[←any_id]; exact hc43) (by have:=of_decide_eq_true hc47; rw[←hR.room]; omega)) (by decide)],S.E⟩
      ·refine wp_skip<|κ45 _ _<|Sx.seqP fun _ κ49=>Sx.run S 3 [.mem 0 0] [(56,.map (some b)),(58,.int .i64 x28.id)] (fun ac S=>?_)
       have hMn:=Sx.On.self ((Sx.On.step hF_M Y42))
       refine Sx.putM S hMn (S.E.size |> fun _=>hbo.1) Tryz.underlying3 Tryz.underlying4 Tryz.underlying85 (by rw[List.length_map,List.length_take]; show _<9223372036854775807; omega) hxo.1.1 (fun u hM2 hgr S=>?_)
       have R:=Sx.Rw.nil S
       have hMo:Sx.Ow w.heap.size (Sx.Ob [(b30,x28.cells),(b2,s.cells)] []) (fun W=>IdMap Tryz.prog 3 4 W b ((s.ns.take (k+1)).map NodeD.id)) u:=by
        rw[ids_snoc lt27 hx26]at hM2
        exact Sx.On.mono (Sx.idMap_on hM2) fun i hi=>by subst hi; exact⟨hbo.1,by simpa[Sx.Ob]using ⟨hbn,hbo.2⟩⟩
       refine Sx.done<|κ49 _ _<|Sx.seqP fun _ κ50=>Sx.run S 3 [.mem 0 2] [(5,.int .i64 x28.depth)] fun ac S=>Sx.done<|κ50 _ _<|Sx.seqP fun _ κ51=>Sx.run S 3 [.mem 0 1] [(63,.bool ((x28.kind)==1))] fun ac S=>Sx.done (κ51 _ _ ?_)
       refine Sx.cond S (fun hc52=>?_) (fun hc52=>?_)
       ·refine Vp.region<|Sx.run S 3 [Sx.kw 65 (x28.depth+1)] [(5,.int .i64 (x28.depth+1))] (hk:=⟨Sx.kw_ok (by have:=checkN_facts (n:=x28) (by simpa using hc38); omega),trivial⟩) fun ac S=>Sx.done<|κ20 _ _<|Vp.region<|Sx.run S 2 [.re 66 (.int .i64 (IntKind.i64.wrap (((k:Nat):Int)+1))) (.int .i64 (((k+1):Nat):Int))] [(35,.int .i64 (((k+1):Nat):Int))] (hk:=⟨Sx.wrap_succ (by omega),trivial⟩) fun ac S=>Sx.done ?_
        have S:=S.dropB 1
        obtain⟨R,Y53⟩:=R.sync2 S (Sx.Stp.dropv 1)
        show ∃i',_∧_
        exact⟨((k+1),(x28.depth+1)),⟨by omega,hR.next lt27 hx26 (wrong_no (by simpa using hc38) (by rw[←any_id]; exact hc43) (by have:=of_decide_eq_false hc47; rw[←hR.room]; omega)) (by rw[if_pos (by simpa using hc52)]),R,(Sx.On.step hMo Y53),(S.sub [(0,s.v),(1,.pointer (some ⟨b2,0,none⟩)),(2,.int .i64 0),(3,.int .i64 0),(4,.map (some b)),(5,.int .i64 (x28.depth+1)),(33,.slice (some ⟨b22,o23,none⟩) s.ns.length cap),(34,.int .i64 ((s.ns.length:Nat):Int)),(35,.int .i64 (((k+1):Nat):Int))]).noviews⟩,by show _-_<_-_; omega⟩
       ·refine wp_skip<|κ20 _ _<|Vp.region<|Sx.run S 2 [.re 66 (.int .i64 (IntKind.i64.wrap (((k:Nat):Int)+1))) (.int .i64 (((k+1):Nat):Int))] [(35,.int .i64 (((k+1):Nat):Int))] (hk:=⟨Sx.wrap_succ (by omega),trivial⟩) fun ac S=>Sx.done ?_
        have S:=S.dropB 1
        obtain⟨R,Y54⟩:=R.sync2 S (Sx.Stp.dropv 1)
        show ∃i',_∧_
        exact⟨((k+1),x28.depth),⟨by omega,hR.next lt27 hx26 (wrong_no (by simpa using hc38) (by rw[←any_id]; exact hc43) (by have:=of_decide_eq_false hc47; rw[←hR.room]; omega)) (by rw[if_neg (by simpa using hc52)]),R,(Sx.On.step hMo Y54),(S.sub [(0,s.v),(1,.pointer (some ⟨b2,0,none⟩)),(2,.int .i64 0),(3,.int .i64 0),(4,.map (some b)),(5,.int .i64 x28.depth),(33,.slice (some ⟨b22,o23,none⟩) s.ns.length cap),(34,.int .i64 ((s.ns.length:Nat):Int)),(35,.int .i64 (((k+1):Nat):Int))]).noviews⟩,by show _-_<_-_; omega⟩
   ·refine wp_exit<|κ15 _ _<|Sx.seqP fun _ κ55=>Sx.run S 2 [] [(2,.int .i64 0),(3,.int .i64 0)] fun ac S=>Sx.done<|κ55 _ _<|Vp.rt ?_
    have hq:=chk_nodes (s:=s.key) hc7
    rw[show s.key.ns=keys s.ns from rfl,List.length_map]at hq
    refine Sx.ret2 S Tryz.results20 ?_
    rw[if_neg (by have:=of_decide_eq_false hc11; omega)]at hq
    exact⟨by rw[hq,hR.done (by have:=of_decide_eq_false hc19; omega)],S.E⟩
end Go.Proofs.YtfmkkemfhjkajaaGreatDoor
