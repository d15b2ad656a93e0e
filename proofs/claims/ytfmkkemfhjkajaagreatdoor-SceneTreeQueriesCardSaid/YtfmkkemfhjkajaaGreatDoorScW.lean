/- Package scene: what it asks of scenes. -/
import Derived.Test.YtfmkkemfhjkajaaGreatDoorPk32
import Derived.Test.YtfmkkemfhjkajaaGreatDoorHoist2
import Derived.Test.YtfmkkemfhjkajaaGreatDoorMap
import Derived.Test.YtfmkkemfhjkajaaGreatDoorCheck
set_option maxHeartbeats 3200000
set_option maxRecDepth 100000
namespace Go.Proofs.YtfmkkemfhjkajaaGreatDoor
open Go.RowKit
variable{α:Type}{K:Nat}
set_option linter.unusedVariables false
abbrev keys (l:List aj):List aJ:=l.map aj.key
theorem dK{l:List aj}{i:Nat}(h:i<l.length):bP (keys l) i=l[i].depth:=by
 rw[pq (by simpa using h)]; simp[keys,aj.key]
theorem zK{z:Int}(h:0≤z):∃i:Nat,z=(i:Int):=⟨z.toNat,by omega⟩
theorem Pj{l:List aj}{id:Int}{k:Nat}(hk:k<l.length)(h:l[k].id=id)(hR:∀(j:Nat) (hj:j<l.length),j<k→l[j].id≠id):iY (keys l) id=(k:Int):=by
 have:ji (keys l) id=some k:=by
  unfold ji
  rw[List.findIdx?_eq_some_iff_getElem]
  refine⟨by simpa using hk,by simpa[keys,aj.key]using h,fun j hj=>?_⟩
  have:=hR j (by omega) hj
  simpa[keys,aj.key]using this
 unfold iY; rw[this]
theorem G7{l:List aj}{id:Int}(hR:∀(j:Nat) (hj:j<l.length),l[j].id≠id):iY (keys l) id = -1:=by
 have:ji (keys l) id=none:=by
  unfold ji
  rw[List.findIdx?_eq_none_iff]
  intro κ hκ
  obtain⟨n,hn,rfl⟩:=List.mem_map.1 hκ
  obtain⟨j,hj,rfl⟩:=List.getElem_of_mem hn
  simpa[aj.key]using hR j hj
 unfold iY; rw[this]
theorem Jt{l:List aj}{id:Int}{k:Nat}(hk:k<l.length)(hR:∀(j:Nat) (hj:j<l.length),j<k→l[j].id≠id)(h:l[k].id≠id):∀(j:Nat) (hj:j<l.length),j<k+1→l[j].id≠id:=fun j hj h1=>by
 by_cases e:j=k
 ·subst e; exact h
 ·exact hR j hj (by omega)
theorem ZP{l:List aj}{i j:Nat}(hj:j<l.length)(hi:i<l.length)(h:¬l[j].depth=l[i].depth-1):lH (bP (keys l)) (bP (keys l) i-1) (j+1)=lH (bP (keys l)) (bP (keys l) i-1) j:=by
 conv=>lhs; unfold lH
 rw[if_neg (by rw[dK hj,dK hi]; exact h)]
theorem UC{l:List aj}{i j:Nat}(hj:j<l.length)(hi:i<l.length)(h:l[j].depth=l[i].depth-1):lH (bP (keys l)) (bP (keys l) i-1) (j+1)=(j:Int):=by
 unfold lH
 rw[if_pos (by rw[dK hj,dK hi]; exact h)]
theorem Pn{s:aP}(h:((((decide (s.w<1))||(decide (256<s.w)))||(decide (s.h<1)))||(decide (256<s.h)))=true):s.chk=(6,0):=by
 unfold aP.chk
 rw[if_pos (by simpa[or_assoc]using h)]
theorem nC{s:aP}(h:((((decide (s.w<1))||(decide (256<s.w)))||(decide (s.h<1)))||(decide (256<s.h)))=false):s.chk=if 64<s.ns.length then (5,64)else iM [] s.ns:=by
 unfold aP.chk
 rw[if_neg (by simpa[or_assoc,and_assoc]using h)]
theorem He{l:List aJ}{k:Nat}(hk:k<l.length):iM (l.take k) (l.drop k)=if fA (l.take k) l[k]=0 then iM (l.take (k+1)) (l.drop (k+1))else (fA (l.take k) l[k],(k:Int)):=by
 rw[List.drop_eq_getElem_cons hk,List.take_succ_eq_append_getElem hk]
 conv=>lhs; unfold iM
 rw[List.length_take,Nat.min_eq_left (by omega)]
theorem Cb{l:List aj}{k:Nat}(hk:k<l.length){x:aj}(hx:l[k]=x):(keys l)[k]'(by simpa using hk)=x.key:=by simp[keys,hx]
theorem Lj(l:List aj)(k:Nat)(id:Int):((l.take k).map aj.id).any (· == id)=((keys l).take k).any fun κ=>κ.id==id:=by
 rw[←List.map_take,List.any_map,List.any_map]; rfl
structure uN (l:List aj) (k:Nat) (m:Int):Prop where
 all:iM [] (keys l)=iM ((keys l).take k) ((keys l).drop k)
 room:m=nS ((keys l).take k)
theorem uN.start(l:List aj):uN l 0 0:=⟨by simp,rfl⟩
theorem uN.bad{l:List aj}{k:Nat}{m n:Int}{x:aj}(h:uN l k m)(hk:k<l.length)(hx:l[k]=x)(hw:fA ((keys l).take k) x.key=n)(hn:n≠0):iM [] (keys l)=(n,(k:Int)):=by
 rw[h.all,He (by simpa using hk),Cb hk hx,hw,if_neg hn]
theorem uN.next{l:List aj}{k:Nat}{m m':Int}{x:aj}(h:uN l k m)(hk:k<l.length)(hx:l[k]=x)(hw:fA ((keys l).take k) x.key=0)(hm:m'=if x.kind=1 then x.depth+1 else x.depth):uN l (k+1) m':=by
 have hk':k<(keys l).length:=by simpa using hk
 refine⟨?_,?_⟩
 ·rw[h.all,He hk',Cb hk hx,hw,if_pos rfl]
 ·rw[List.take_succ_eq_append_getElem hk',Gn,Cb hk hx,hm]; rfl
theorem uN.done{l:List aj}{k:Nat}{m:Int}(h:uN l k m)(hk:l.length≤k):iM [] (keys l)=(0,0):=by
 rw[h.all,List.drop_eq_nil_of_le (by simpa using hk)]; rfl
theorem G8{pre:List aJ}{x:aj}(h:x.checkN≠0):fA pre x.key=x.checkN:=by rw[←nT]at h ⊢; exact Gl h
theorem Ju{pre:List aJ}{x:aj}(h:x.checkN=0)(h2:pre.any (fun κ=>κ.id==x.id)=true):fA pre x.key=7:=by
 unfold fA
 rw[nT,h,if_neg (by simp),if_pos (show(pre.any fun κ=>κ.id==x.key.id)=true from h2)]
theorem Dq{pre:List aJ}{x:aj}(h:x.checkN=0)(h2:pre.any (fun κ=>κ.id==x.id)=false)(h3:nS pre<x.depth):fA pre x.key=17:=by
 unfold fA
 rw[nT,h,if_neg (by simp),if_neg (by rw[show x.key.id=x.id from rfl,h2]; simp),if_neg (by show ¬x.depth≤_; omega)]
theorem G9{pre:List aJ}{x:aj}(h:x.checkN=0)(h2:pre.any (fun κ=>κ.id==x.id)=false)(h3:x.depth≤nS pre):fA pre x.key=0:=by
 unfold fA
 rw[nT,h,if_neg (by simp),if_neg (by rw[show x.key.id=x.id from rfl,h2]; simp),if_pos (by exact h3)]
theorem WX(w:World):(zeroValue 4).run Tryz.prog w = .ok (.bool false) w:=Sx.qw (by kernel_rfl)
theorem xZ{w:World}{v:Value}{l:List aj}(h:aT 47 aj.cells w v l){i:Nat}(hi:i<l.length){z:Int}(hz:z=(i:Int)){r:Nat}(hr:r=eu (keys l) i) :
  Calls Tryz.prog 58 #[v,.int .i64 z] w fun e w'=>e = .returned (.int .i64 ((r:Nat):Int))∧Ext w w':=by
 subst hz hr
 obtain⟨a,cap,rfl⟩:=h.shape
 have hmax:l.length≤9223372036854775807:=h.len
 refine aiK Tryz.func58 Tryz.ntmps58 fun ac S=>aiG fun _ aU=>adr S 1 [] [(4,.int .i64 0)] fun ac S=>aiF<|aU _ _<|aiG fun _ fE=>adr S 3 [.re 7 (.int .i64 (IntKind.i64.wrap (((i:Nat):Int)+1))) (.int .i64 (((i+1):Nat):Int))] [(5,.int .i64 (((i+1):Nat):Int))] (hk:=⟨aiR (by omega),trivial⟩) fun ac S=>aiF<|fE _ _<|wp_seq_k fun _ gW=>wp_block ?_
 refine Vp.loop (ι:=Nat) (fun p a' w'=>(i<p∧p≤l.length∧∀j,i<j→j<p→bP (keys l) i<bP (keys l) j)∧Sx.St w a' w' 28 [(0,.slice a l.length cap),(1,.int .i64 ((i:Nat):Int)),(4,.int .i64 0),(5,.int .i64 ((p:Nat):Int))] [] []) (fun p=>l.length-p) ((i+1)) ⟨⟨by omega,by omega,fun j h1 h2=>by omega⟩,(S.sub [(0,.slice a l.length cap),(1,.int .i64 ((i:Nat):Int)),(4,.int .i64 0),(5,.int .i64 (((i+1):Nat):Int))]).aK⟩ ?_
 rintro k ac u hI
 try dsimp only at hI
 obtain⟨hR,S⟩:=hI
 refine wp_seq_k fun _ lG=>wp_seq_k (fun _ bV=>?_)
 rcases Nat.lt_or_ge k l.length with hk | hk
 ·have ek:decide (((k:Nat):Int)<((l.length:Nat):Int))=true:=decide_eq_true (by omega)
  obtain⟨b1,o1,c1,hv1,hb1,hr1⟩:=Vp.aF h (fun _=>rfl) i hi
  simp only[Value.slice.injEq,true_and]at hv1
  obtain⟨rfl,rfl⟩:=hv1
  obtain⟨b2,o2,c2,hv2,hb2,hr2⟩:=Vp.aF h (fun _=>rfl) k hk
  simp only[Value.slice.injEq,Option.some.injEq,Addr.mk.injEq,true_and,and_true]at hv2
  obtain⟨⟨rfl,rfl⟩,rfl⟩:=hv2
  obtain⟨x,hx⟩:∃z,l[i]=z:=⟨_,rfl⟩
  rw[hx]at hr1
  obtain⟨y,hy⟩:∃z,l[k]=z:=⟨_,rfl⟩
  rw[hy]at hr2
  have S:=S.view0 hb1 hr1
  have S:=S.view0 hb2 hr2
  refine aiO S 17 [.re 11 (.bool (decide (((k:Nat):Int)<((l.length:Nat):Int)))) (.bool true),.idx k l.length,.mem 0 2,.idx i l.length,.mem 1 2] [] [(24,.bool (decide (x.depth<y.depth)))] trivial (hk:=⟨(congrArg Value.bool ek),hk,hi,trivial⟩) fun ac u E6 S=>aiF (bV _ _ ?_)
  refine aiI S (fun kV=>?_) (fun kV=>?_)
  ·refine wp_skip<|lG _ _<|wp_block<|Vp.region<|adr S 3 [.re 26 (.int .i64 (IntKind.i64.wrap (((k:Nat):Int)+1))) (.int .i64 (((k+1):Nat):Int))] [(5,.int .i64 (((k+1):Nat):Int))] (hk:=⟨aiR (by omega),trivial⟩) fun ac S=>aiF ?_
   show ∃i',_∧_
   exact⟨(k+1),⟨⟨by omega,by omega,fun j h1 h2=>by
    by_cases e:j=k
    ·subst e; rw[dK hi,dK hk,hx,hy]; have:=of_decide_eq_true kV; omega
    ·exact hR.2.2 j h1 (by omega)⟩,(S.sub [(0,.slice (some ⟨b1,o1,none⟩) l.length cap),(1,.int .i64 ((i:Nat):Int)),(4,.int .i64 0),(5,.int .i64 (((k+1):Nat):Int))]).aK⟩,by show l.length-(k+1)<l.length-k; omega⟩
  ·refine wp_exit<|gW _ _<|aiG fun _ dP=>adr S 2 [] [(4,.int .i64 ((k:Nat):Int))] fun ac S=>aiF<|dP _ _<|Vp.rt ?_
   refine aiH S Tryz.results58 ?_
   have he:eu (keys l) i=k:=by
    rw[rD (by simpa using hi)]
    exact Af (by simpa using hi) hR.1 (by simpa using hR.2.1) hR.2.2 (fun hk=>by rw[dK hi,dK (by simpa using hk),hx,hy]; have:=of_decide_eq_false kV; omega)
   exact⟨by rw[he],S.E⟩
 ·have ek:decide (((k:Nat):Int)<((l.length:Nat):Int))=false:=decide_eq_false (by omega)
  refine aiO S 17 [.re 11 (.bool (decide (((k:Nat):Int)<((l.length:Nat):Int)))) (.bool false),.dead 13 (.bool false),.dead 14 (.bool false),.dead 15 (.bool false),.dead 16 (.bool false),.dead 17 (.bool false),.dead 18 (.bool false),.dead 19 (.bool false),.dead 20 (.bool false),.dead 21 (.bool false),.dead 22 (.bool false),.dead 23 (.bool false)] [] [(24,.bool false)] trivial (hk:=⟨(congrArg Value.bool ek),trivial⟩) fun ac u E9 S=>aiF<|bV _ _<|aiY S<|wp_exit<|gW _ _<|aiG fun _ dV=>adr S 2 [] [(4,.int .i64 ((k:Nat):Int))] fun ac S=>aiF<|dV _ _<|Vp.rt ?_
  refine aiH S Tryz.results58 ?_
  have he:eu (keys l) i=k:=by
   rw[rD (by simpa using hi)]
   exact Af (by simpa using hi) hR.1 (by simpa using hR.2.1) hR.2.2 (fun hk2=>by simp at hk2; omega)
  exact⟨by rw[he],S.E⟩
theorem zO{w:World}{v:Value}{l:List aj}(h:aT 47 aj.cells w v l){id:Int} :
  Calls Tryz.prog 59 #[v,.int .i64 id] w fun e w'=>e = .returned (.int .i64 (iY (keys l) id))∧Ext w w':=by
 obtain⟨a,cap,rfl⟩:=h.shape
 have hmax:l.length≤9223372036854775807:=h.len
 refine aiK Tryz.func59 Tryz.ntmps59 fun ac S=>aiG fun _ aU=>adr S 1 [] [(4,.int .i64 0)] fun ac S=>aiF<|aU _ _<|wp_seq_k fun _ fE=>aiG fun _ gW=>adr S 3 [] [(7,.slice a l.length cap),(8,.int .i64 ((l.length:Nat):Int)),(9,.int .i64 0)] fun ac S=>aiF<|gW _ _<|wp_block ?_
 refine Vp.loop (ι:=Nat) (fun p a' w'=>p≤l.length∧(∀(j:Nat) (hj:j<l.length),j<p→l[j].id≠id)∧Sx.St w a' w' 20 [(0,.slice a l.length cap),(1,.int .i64 id),(4,.int .i64 0),(7,.slice a l.length cap),(8,.int .i64 ((l.length:Nat):Int)),(9,.int .i64 ((p:Nat):Int))] [] []) (fun p=>l.length-p) (0) ⟨Nat.zero_le _,fun j hj h=>by omega,(S.sub [(0,.slice a l.length cap),(1,.int .i64 id),(4,.int .i64 0),(7,.slice a l.length cap),(8,.int .i64 ((l.length:Nat):Int)),(9,.int .i64 ((0:Nat):Int))]).aK⟩ ?_
 rintro k ac u hI
 try dsimp only at hI
 obtain⟨hk,hR,S⟩:=hI
 refine aiG fun _ lG=>adr S 1 [] [(10,.bool (decide (((k:Nat):Int)<((l.length:Nat):Int))))] fun ac S=>aiF<|lG _ _<|wp_seq_k (fun _ bV=>?_)
 refine aiI S (fun hc6=>?_) (fun hc6=>?_)
 ·refine wp_skip<|bV _ _<|wp_seq_k fun _ kC=>wp_block<|aiG (fun _ dP=>?_)
  have tN:k<l.length:=by have:=of_decide_eq_true hc6; omega
  obtain⟨b9,o10,c11,hv,hb16,EO⟩:=Vp.aF h (fun _=>rfl) (k) tN
  simp only[Value.slice.injEq,true_and]at hv
  obtain⟨rfl,rfl⟩:=hv
  obtain⟨x15,wJ⟩:∃z,l[k]=z:=⟨_,rfl⟩
  rw[wJ]at EO
  have S:=S.view0 hb16 EO
  refine adr S 3 [.idx k l.length,.mem 0 0] [(11,.int .i64 ((k:Nat):Int)),(13,x15.v)] (hk:=⟨tN,trivial⟩) fun ac S=>aiJ S 6 (Sx.L [.int .i64 0,.int .i64 0,.int .i64 0]++Sx.za++Sx.L [.slice none 0 0,.int .i64 0,.int .u8 0,.int .i64 0,.bool false,.bool false,.slice none 0 0,.int .i64 0,.slice none 0 0,.int .i64 0,.int .i64 0,.int .i64 0,.int .i64 0,.slice none 0 0,.int .i64 0,.slice none 0 0,.int .i64 0,.int .i64 0,.slice none 0 0,.int .i64 0]) fun ac u b17 JD aiB S=>adr S 1 [] [(5,.int .i64 ((k:Nat):Int))] fun ac S=>aiL S 0 (off:=0) (cs:=x15.cells) rfl fun u C20 S=>aiF<|dP _ _<|aiG fun _ jo=>adr S 4 [.mem 0 0] [(17,.bool ((x15.id)==id))] fun ac S=>aiF (jo _ _ ?_)
  refine aiI S (fun hc22=>?_) (fun hc22=>?_)
  ·refine aiG fun _ oJ=>adr S 2 [] [(4,.int .i64 ((k:Nat):Int))] fun ac S=>aiF<|oJ _ _<|Vp.rt ?_
   refine aiH S Tryz.results59 ?_
   exact⟨by rw[Pj tN (by rw[wJ]; simpa using hc22) hR],S.E⟩
  ·refine wp_skip<|kC _ _<|Vp.region<|adr S 2 [.re 19 (.int .i64 (IntKind.i64.wrap (((k:Nat):Int)+1))) (.int .i64 (((k+1):Nat):Int))] [(9,.int .i64 (((k+1):Nat):Int))] (hk:=⟨aiR (by omega),trivial⟩) fun ac S=>aiF ?_
   show ∃i',_∧_
   exact⟨(k+1),⟨by omega,(Jt tN hR (by rw[wJ]; simpa using hc22)),(S.sub [(0,.slice (some ⟨b9,o10,none⟩) l.length cap),(1,.int .i64 id),(4,.int .i64 0),(7,.slice (some ⟨b9,o10,none⟩) l.length cap),(8,.int .i64 ((l.length:Nat):Int)),(9,.int .i64 (((k+1):Nat):Int))]).aK.uD 1⟩,by show _-_<_-_; omega⟩
 ·refine wp_exit<|fE _ _<|aiG fun _ kK=>adr S 1 [] [(4,.int .i64 (-1))] fun ac S=>aiF<|kK _ _<|Vp.rt ?_
  refine aiH S Tryz.results59 ?_
  have hk:=of_decide_eq_false hc6
  exact⟨by rw[G7 (fun j hj=>hR j hj (by omega))],S.E⟩
theorem AY{w:World}{v:Value}{l:List aj}(h:aT 47 aj.cells w v l){i:Nat}(hi:i<l.length)(hd:0≤l[i].depth∧l[i].depth<8){q:Int}(hz:q=(i:Int)) :
  Calls Tryz.prog 70 #[v,.int .i64 q] w fun e w'=>e = .returned (.int .i64 (iL (bP (keys l)) i))∧Ext w w':=by
 subst hz
 obtain⟨a,cap,rfl⟩:=h.shape
 have hmax:l.length≤9223372036854775807:=h.len
 refine aiK Tryz.func70 Tryz.ntmps70 fun ac S=>aiG fun _ aU=>adr S 1 [] [(4,.int .i64 0)] fun ac S=>aiF<|aU _ _<|wp_seq_k fun _ fE=>aiG fun _ gW=>adr S 3 [Sx.kw 7 (((i:Nat):Int)-1)] [(5,.int .i64 (((i:Nat):Int)-1))] (hk:=⟨Sx.AX (by omega),trivial⟩) fun ac S=>aiF<|gW _ _<|wp_block ?_
 refine Vp.loop (ι:=Int) (fun p a' w'=>(-1≤p∧p<i∧lH (bP (keys l)) ((bP (keys l)) i-1) i=lH (bP (keys l)) ((bP (keys l)) i-1) (p+1).toNat)∧Sx.St w a' w' 25 [(0,.slice a l.length cap),(1,.int .i64 ((i:Nat):Int)),(4,.int .i64 0),(5,.int .i64 p)] [] []) (fun p=>(p+1).toNat) ((((i:Nat):Int)-1)) ⟨⟨by omega,by omega,by rw[show((i:Int)-1+1).toNat=i by omega]⟩,(S.sub [(0,.slice a l.length cap),(1,.int .i64 ((i:Nat):Int)),(4,.int .i64 0),(5,.int .i64 (((i:Nat):Int)-1))]).aK⟩ ?_
 rintro z ac u hI
 try dsimp only at hI
 obtain⟨hR,S⟩:=hI
 refine wp_seq_k fun _ lG=>aiG fun _ bV=>adr S 2 [] [(9,.bool (decide (0≤z)))] fun ac S=>aiF (bV _ _ ?_)
 refine aiI S (fun hc6=>?_) (fun hc6=>?_)
 ·obtain⟨j,rfl⟩:=zK (of_decide_eq_true hc6)
  rw[show((j:Int)+1).toNat=j+1 by omega]at hR
  refine wp_skip<|lG _ _<|wp_seq_k fun _ kC=>wp_block<|wp_seq_k (fun _ dP=>?_)
  have nG:j<l.length:=by omega
  obtain⟨b10,Vt,c12,hv,Dy,wH⟩:=Vp.aF h (fun _=>rfl) (j) nG
  simp only[Value.slice.injEq,true_and]at hv
  obtain⟨rfl,rfl⟩:=hv
  obtain⟨x16,pO⟩:∃z,l[j]=z:=⟨_,rfl⟩
  rw[pO]at wH
  have S:=S.view0 Dy wH
  have lt23:i<l.length:=by omega
  obtain⟨b18,o19,c20,hv,adZ,ZO⟩:=Vp.aF h (fun _=>rfl) (i) lt23
  simp only[Value.slice.injEq,Option.some.injEq,Addr.mk.injEq,true_and,and_true]at hv
  obtain⟨⟨rfl,rfl⟩,rfl⟩:=hv
  obtain⟨x24,Ld⟩:∃z,l[i]=z:=⟨_,rfl⟩
  rw[Ld]at ZO
  have hd0:0≤x24.depth∧x24.depth<8:=Ld▸hd
  have S:=S.view0 adZ ZO
  refine aiO S 12 [.idx j l.length,.mem 1 2,.idx i l.length,.mem 0 2,Sx.kw 22 (x24.depth-1)] [] [(23,.bool ((x16.depth)==(x24.depth-1)))] trivial (hk:=⟨nG,lt23,Sx.AX (by omega),trivial⟩) fun ac u E9 S=>aiF (dP _ _ ?_)
  refine aiI S (fun Sv=>?_) (fun Sv=>?_)
  ·refine aiG fun _ lJ=>adr S 2 [] [(4,.int .i64 ((j:Nat):Int))] fun ac S=>aiF<|lJ _ _<|Vp.rt ?_
   refine aiH S Tryz.results70 ?_
   exact⟨by unfold iL; rw[hR.2.2,UC nG hi (by rw[pO,Ld]; simpa using Sv)],S.E⟩
  ·refine wp_skip<|kC _ _<|Vp.region<|adr S 3 [Sx.kw 11 (((j:Nat):Int)-1)] [(5,.int .i64 (((j:Nat):Int)-1))] (hk:=⟨Sx.AX (by omega),trivial⟩) fun ac S=>aiF ?_
   show ∃i',_∧_
   exact⟨(((j:Nat):Int)-1),⟨⟨by omega,by omega,by rw[hR.2.2,show((j:Int)-1+1).toNat=j by omega]; exact ZP nG hi (by rw[pO,Ld]; simpa using Sv)⟩,(S.sub [(0,.slice (some ⟨b10,Vt,none⟩) l.length cap),(1,.int .i64 ((i:Nat):Int)),(4,.int .i64 0),(5,.int .i64 (((j:Nat):Int)-1))]).aK⟩,by show((j:Int)-1+1).toNat<((j:Int)+1).toNat; omega⟩
 ·refine wp_exit<|fE _ _<|aiG fun _ lK=>adr S 1 [] [(4,.int .i64 (-1))] fun ac S=>aiF<|lK _ _<|Vp.rt ?_
  refine aiH S Tryz.results70 ?_
  have hz:=of_decide_eq_false hc6
  exact⟨by unfold iL; rw[hR.2.2,show(z+1).toNat=0 by omega]; rfl,S.E⟩
theorem ZT{l:List aj}{k:Nat}{x:aj}(hk:k<l.length)(hx:l[k]=x):(l.take k).map aj.id++[x.id]=(l.take (k+1)).map aj.id:=by
 rw[List.take_succ_eq_append_getElem hk,List.map_append,hx]; rfl
theorem sN{w:World}{s:aS}(h:bW K w s)(hg:jE w) :
  Calls Tryz.prog 20 #[s.v] w fun e w'=>e = .returned (.tuple #[.int .i64 s.key.chk.1,.int .i64 s.key.chk.2])∧Ext w w':=by
 have hmax:s.ns.length≤9223372036854775807:=h.2.2.1.len
 refine aiK Tryz.func20 Tryz.ntmps20 (fun ac S=>?_)
 obtain⟨a,cap,es⟩:∃a c,s.s = .slice a s.ns.length c:=⟨_,_,rfl⟩
 have hr:=h.2.2.1
 rw[es]at hr
 refine aiG fun _ aU=>aiJ S 1 s.cells fun ac u b2 E3 hb4 S=>adr S 2 [] [(2,.int .i64 0),(3,.int .i64 0)] fun ac S=>aiF<|aU _ _<|wp_seq_k fun _ bV=>aiG fun _ iK=>adr S 18 [.mem 0 0,.mem 0 0,.mem 0 1,.mem 0 1] [(26,.bool ((((decide (s.w<1))||(decide (256<s.w)))||(decide (s.h<1)))||(decide (256<s.h))))] fun ac S=>aiF (iK _ _ ?_)
 refine aiI S (fun kV=>?_) (fun kV=>?_)
 ·refine aiG fun _ dP=>adr S 2 [] [(2,.int .i64 6),(3,.int .i64 0)] fun ac S=>aiF<|dP _ _<|Vp.rt ?_
  refine Sx.vM S Tryz.results20 ?_
  exact⟨by rw[Pn (s:=s.key) kV],S.E⟩
 ·refine wp_skip<|bV _ _<|wp_seq_k fun _ gB=>aiG fun _ dV=>adr S 4 [.mem 0 6,.re 28 s.s (.slice a s.ns.length cap)] [(30,.bool (decide (64<((s.ns.length:Nat):Int))))] (hk:=⟨es,trivial⟩) fun ac S=>aiF (dV _ _ ?_)
  refine aiI S (fun gu=>?_) (fun gu=>?_)
  ·refine aiG fun _ dw=>adr S 2 [] [(2,.int .i64 5),(3,.int .i64 64)] fun ac S=>aiF<|dw _ _<|Vp.rt ?_
   have hq:=nC (s:=s.key) kV
   rw[show s.key.ns=keys s.ns from rfl,List.length_map]at hq
   refine Sx.vM S Tryz.results20 ?_
   exact⟨by rw[hq,if_pos (by have:=of_decide_eq_true gu; omega)],S.E⟩
  ·refine wp_skip<|gB _ _<|aiG (fun _ fZ=>?_)
   have hold:=S.E.size
   have ah3:=(S.bx 0).1
   refine Sx.ag1 S 31 (fun ac u b E0 hb hM S=>?_)
   have R:=Sx.Rw.nil S
   have hbo:w.heap.size≤b∧b≠b2:=⟨by omega,by omega⟩
   have hMo:Sx.Ow _ (Sx.Ob [(b2,s.cells)] []) (fun W=>jZ Tryz.prog 3 4 W b []) _:=Sx.On.mono (Sx.Nl (hM _ _)) fun i hi=>by subst hi; exact⟨hbo.1,by simpa[Sx.Ob]using hbo.2⟩
   refine adr S 1 [] [(4,.map (some b))] fun ac S=>aiF<|fZ _ _<|aiG fun _ fU=>adr S 1 [] [(5,.int .i64 0)] fun ac S=>aiF<|fU _ _<|wp_seq_k fun _ fH=>aiG fun _ iR=>adr S 4 [.mem 0 6,.re 33 s.s (.slice a s.ns.length cap)] [(33,.slice a s.ns.length cap),(34,.int .i64 ((s.ns.length:Nat):Int)),(35,.int .i64 0)] (hk:=⟨es,trivial⟩) fun ac S=>aiF<|iR _ _<|wp_block ?_
   refine Vp.loop (ι:=Nat×Int) (fun p a' w'=>p.1≤s.ns.length∧(uN s.ns p.1 p.2)∧Sx.Rw w w' [(b2,s.cells)] []∧Sx.Ow w.heap.size (Sx.Ob [(b2,s.cells)] []) (fun W=>jZ Tryz.prog 3 4 W b ((s.ns.take p.1).map aj.id)) w'∧Sx.St w a' w' 67 [(0,s.v),(1,.pointer (some ⟨b2,0,none⟩)),(2,.int .i64 0),(3,.int .i64 0),(4,.map (some b)),(5,.int .i64 p.2),(33,.slice a s.ns.length cap),(34,.int .i64 ((s.ns.length:Nat):Int)),(35,.int .i64 ((p.1:Nat):Int))] [(b2,s.cells)] []) (fun p=>s.ns.length-p.1) (0,0) ⟨Nat.zero_le _,uN.start _,R,hMo,(S.sub [(0,s.v),(1,.pointer (some ⟨b2,0,none⟩)),(2,.int .i64 0),(3,.int .i64 0),(4,.map (some b)),(5,.int .i64 0),(33,.slice a s.ns.length cap),(34,.int .i64 ((s.ns.length:Nat):Int)),(35,.int .i64 ((0:Nat):Int))]).aK⟩ ?_
   rintro⟨k,m⟩ ac u hI
   try dsimp only at hI
   obtain⟨hk,hR,R,H9,S⟩:=hI
   refine aiG fun _ ig=>adr S 1 [] [(36,.bool (decide (((k:Nat):Int)<((s.ns.length:Nat):Int))))] fun ac S=>aiF<|ig _ _<|wp_seq_k (fun _ je=>?_)
   refine aiI S (fun hc19=>?_) (fun hc19=>?_)
   ·refine wp_skip<|je _ _<|wp_seq_k fun _ iU=>wp_block<|aiG (fun _ jo=>?_)
    have hMl:=(Sx.On.self (H9)).lt
    have jq:k<s.ns.length:=by have:=of_decide_eq_true hc19; omega
    obtain⟨b22,Tc,c24,hv,Ac,uo⟩:=Vp.aF hr (fun _=>rfl) (k) jq
    simp only[Value.slice.injEq,true_and]at hv
    obtain⟨rfl,rfl⟩:=hv
    obtain⟨x28,kG⟩:∃z,s.ns[k]=z:=⟨_,rfl⟩
    rw[kG]at uo
    have hxo:=h.2.2.2 _ (kG▸List.getElem_mem jq)
    have S:=S.view0 Ac uo
    refine adr S 3 [.idx k s.ns.length,.mem 1 0] [(37,.int .i64 ((k:Nat):Int)),(39,x28.v)] (hk:=⟨jq,trivial⟩) fun ac S=>aiJ S 7 (Sx.L [.int .i64 0,.int .i64 0,.int .i64 0]++Sx.za++Sx.L [.slice none 0 0,.int .i64 0,.int .u8 0,.int .i64 0,.bool false,.bool false,.slice none 0 0,.int .i64 0,.slice none 0 0,.int .i64 0,.int .i64 0,.int .i64 0,.int .i64 0,.slice none 0 0,.int .i64 0,.slice none 0 0,.int .i64 0,.int .i64 0,.slice none 0 0,.int .i64 0]) fun ac u b30 JB PE S=>adr S 1 [] [(6,.int .i64 ((k:Nat):Int))] fun ac S=>aiL S 0 (off:=0) (cs:=x28.cells) rfl (fun u UO S=>?_)
    have hbn:b≠b30:=by omega
    refine aiF<|jo _ _<|wp_seq_k fun _ uQ=>aiG fun _ oK=>adr S 1 [.mem 0 0] [(40,x28.v)] fun ac S=>aiM S 41 (H8 ((h.2.2.2 _ (kG▸List.getElem_mem jq)).below S.E) (hg.below S.E)) fun ac u E36 S=>adr S 1 [] [(8,.int .i64 x28.checkN)] fun ac S=>aiF<|oK _ _<|aiG fun _ qo=>adr S 2 [] [(43,.bool ((x28.checkN) != 0))] fun ac S=>aiF (qo _ _ ?_)
    refine aiI S (fun hc38=>?_) (fun hc38=>?_)
    ·refine aiG fun _ ug=>adr S 4 [] [(2,.int .i64 x28.checkN),(3,.int .i64 ((k:Nat):Int))] fun ac S=>aiF<|ug _ _<|Vp.rt ?_
     have hq:=nC (s:=s.key) kV
     rw[show s.key.ns=keys s.ns from rfl,List.length_map]at hq
     refine Sx.vM S Tryz.results20 ?_
     rw[if_neg (by have:=of_decide_eq_false gu; omega)]at hq
     exact⟨by rw[hq,hR.bad jq kG (G8 (by simpa using hc38)) (by simpa using hc38)],S.E⟩
    ·refine wp_skip<|uQ _ _<|wp_seq_k fun _ yY=>aiG fun _ qW=>adr S 3 [.mem 0 0] [(46,.map (some b)),(48,.int .i64 x28.id)] (fun ac S=>?_)
     obtain⟨R,Y42⟩:=R.eH S (Sx.Stp.trans (Sx.Stp.NJ JB PE) (Sx.Stp.trans (Sx.Stp.chm UO (by simp[Sx.vb])) (Sx.Stp.ext E36)))
     have hMn:=Sx.On.self ((Sx.On.step H9 Y42))
     refine Sx.aeL S 49 hMn Tryz.underlying3 Tryz.underlying4 Tryz.underlying85 (WX _) (hxo.1.1) fun ac S=>aiF (qW _ _ ?_)
     refine aiI S (fun Ll=>?_) (fun Ll=>?_)
     ·refine aiG fun _ wE=>adr S 3 [] [(2,.int .i64 7),(3,.int .i64 ((k:Nat):Int))] fun ac S=>aiF<|wE _ _<|Vp.rt ?_
      have hq:=nC (s:=s.key) kV
      rw[show s.key.ns=keys s.ns from rfl,List.length_map]at hq
      refine Sx.vM S Tryz.results20 ?_
      rw[if_neg (by have:=of_decide_eq_false gu; omega)]at hq
      exact⟨by rw[hq,hR.bad jq kG (Ju (by simpa using hc38) (by rw[←Lj]; exact Ll)) (by decide)],S.E⟩
     ·refine wp_skip<|yY _ _<|wp_seq_k fun _ Bv=>aiG fun _ zU=>adr S 4 [.mem 0 2] [(54,.bool (decide (m<x28.depth)))] fun ac S=>aiF (zU _ _ ?_)
      refine aiI S (fun hc47=>?_) (fun hc47=>?_)
      ·refine aiG fun _ yx=>adr S 3 [] [(2,.int .i64 17),(3,.int .i64 ((k:Nat):Int))] fun ac S=>aiF<|yx _ _<|Vp.rt ?_
       have hq:=nC (s:=s.key) kV
       rw[show s.key.ns=keys s.ns from rfl,List.length_map]at hq
       refine Sx.vM S Tryz.results20 ?_
       rw[if_neg (by have:=of_decide_eq_false gu; omega)]at hq
       exact⟨by rw[hq,hR.bad jq kG (Dq (by simpa using hc38) (by rw[←Lj]; exact Ll) (by have:=of_decide_eq_true hc47; rw[←hR.room]; omega)) (by decide)],S.E⟩
      ·refine wp_skip<|Bv _ _<|aiG fun _ yA=>adr S 3 [.mem 0 0] [(56,.map (some b)),(58,.int .i64 x28.id)] (fun ac S=>?_)
       have hMn:=Sx.On.self ((Sx.On.step H9 Y42))
       refine Sx.ag3 S hMn (S.E.size |> fun _=>hbo.1) Tryz.underlying3 Tryz.underlying4 Tryz.underlying85 (by rw[List.length_map,List.length_take]; show _<9223372036854775807; omega) hxo.1.1 (fun u hM2 hgr S=>?_)
       have R:=Sx.Rw.nil S
       have hMo:Sx.Ow w.heap.size (Sx.Ob [(b30,x28.cells),(b2,s.cells)] []) (fun W=>jZ Tryz.prog 3 4 W b ((s.ns.take (k+1)).map aj.id)) u:=by
        rw[ZT jq kG]at hM2
        exact Sx.On.mono (Sx.Nl hM2) fun i hi=>by subst hi; exact⟨hbo.1,by simpa[Sx.Ob]using ⟨hbn,hbo.2⟩⟩
       refine aiF<|yA _ _<|aiG fun _ zW=>adr S 3 [.mem 0 2] [(5,.int .i64 x28.depth)] fun ac S=>aiF<|zW _ _<|aiG fun _ JJ=>adr S 3 [.mem 0 1] [(63,.bool ((x28.kind)==1))] fun ac S=>aiF (JJ _ _ ?_)
       refine aiI S (fun y9=>?_) (fun y9=>?_)
       ·refine Vp.region<|adr S 3 [Sx.kw 65 (x28.depth+1)] [(5,.int .i64 (x28.depth+1))] (hk:=⟨Sx.AX (by have:=qJ (n:=x28) (by simpa using hc38); omega),trivial⟩) fun ac S=>aiF<|iU _ _<|Vp.region<|adr S 2 [.re 66 (.int .i64 (IntKind.i64.wrap (((k:Nat):Int)+1))) (.int .i64 (((k+1):Nat):Int))] [(35,.int .i64 (((k+1):Nat):Int))] (hk:=⟨aiR (by omega),trivial⟩) fun ac S=>aiF ?_
        have S:=S.uD 1
        obtain⟨R,Y53⟩:=R.eH S (Sx.Stp.Fq 1)
        show ∃i',_∧_
        exact⟨((k+1),(x28.depth+1)),⟨by omega,hR.next jq kG (G9 (by simpa using hc38) (by rw[←Lj]; exact Ll) (by have:=of_decide_eq_false hc47; rw[←hR.room]; omega)) (by rw[if_pos (by simpa using y9)]),R,(Sx.On.step hMo Y53),(S.sub [(0,s.v),(1,.pointer (some ⟨b2,0,none⟩)),(2,.int .i64 0),(3,.int .i64 0),(4,.map (some b)),(5,.int .i64 (x28.depth+1)),(33,.slice (some ⟨b22,Tc,none⟩) s.ns.length cap),(34,.int .i64 ((s.ns.length:Nat):Int)),(35,.int .i64 (((k+1):Nat):Int))]).aK⟩,by show _-_<_-_; omega⟩
       ·refine wp_skip<|iU _ _<|Vp.region<|adr S 2 [.re 66 (.int .i64 (IntKind.i64.wrap (((k:Nat):Int)+1))) (.int .i64 (((k+1):Nat):Int))] [(35,.int .i64 (((k+1):Nat):Int))] (hk:=⟨aiR (by omega),trivial⟩) fun ac S=>aiF ?_
        have S:=S.uD 1
        obtain⟨R,Y54⟩:=R.eH S (Sx.Stp.Fq 1)
        show ∃i',_∧_
        exact⟨((k+1),x28.depth),⟨by omega,hR.next jq kG (G9 (by simpa using hc38) (by rw[←Lj]; exact Ll) (by have:=of_decide_eq_false hc47; rw[←hR.room]; omega)) (by rw[if_neg (by simpa using y9)]),R,(Sx.On.step hMo Y54),(S.sub [(0,s.v),(1,.pointer (some ⟨b2,0,none⟩)),(2,.int .i64 0),(3,.int .i64 0),(4,.map (some b)),(5,.int .i64 x28.depth),(33,.slice (some ⟨b22,Tc,none⟩) s.ns.length cap),(34,.int .i64 ((s.ns.length:Nat):Int)),(35,.int .i64 (((k+1):Nat):Int))]).aK⟩,by show _-_<_-_; omega⟩
   ·refine wp_exit<|fH _ _<|aiG fun _ D9=>adr S 2 [] [(2,.int .i64 0),(3,.int .i64 0)] fun ac S=>aiF<|D9 _ _<|Vp.rt ?_
    have hq:=nC (s:=s.key) kV
    rw[show s.key.ns=keys s.ns from rfl,List.length_map]at hq
    refine Sx.vM S Tryz.results20 ?_
    rw[if_neg (by have:=of_decide_eq_false gu; omega)]at hq
    exact⟨by rw[hq,hR.done (by have:=of_decide_eq_false hc19; omega)],S.E⟩
end Go.Proofs.YtfmkkemfhjkajaaGreatDoor
