/- Reference 37: what it asks of scenes. -/
import Derived.Test.YtfmkkemfhjkajaaGreatDoorPk44
import Derived.Test.YtfmkkemfhjkajaaGreatDoorE36b
import Derived.Test.YtfmkkemfhjkajaaGreatDoorPk29
import Derived.Test.YtfmkkemfhjkajaaGreatDoorEx37
set_option maxHeartbeats 3200000
set_option maxRecDepth 100000
namespace Go.Proofs.YtfmkkemfhjkajaaGreatDoor
open Go.RowKit
variable{α:Type}{K:Nat}
set_option linter.unusedVariables false
theorem zN{j:Nat}(h:j+1≤9223372036854775807):Value.int .i64 (IntKind.i64.wrap (((j+1:Nat):Int)-1)) = .int .i64 ((j:Nat):Int):=by
 have:IntKind.i64.wrap (((j+1:Nat):Int)-1)=((j:Nat):Int):=by rw[IntKind.wrap_i64]; omega
 rw[this]
theorem Dp{l:List aj}{j:Nat}{p x:aj}(hj:j<l.length)(hp:l[j]=p):sZ ((keys l).take (j+1)) x.key=((((p.kind)==1)&&((x.depth)==(p.depth+1)))||decide (x.depth≤p.depth)):=by
 unfold sZ
 rw[List.take_succ_eq_append_getElem (by simpa using hj),List.getLast?_concat,List.getElem_map,hp]
 rfl
theorem G5{l:List aj}{id:Int}:decide (0≤iY (keys l) id)=(keys l).any fun κ=>κ.id==id:=by
 unfold iY
 cases h:ji (keys l) id with
 | none =>
  have h2:=Ry.1 h
  rw[show(decide ((0:Int) ≤ -1))=false from rfl]
  symm
  rw[List.any_eq_false]
  intro x hx
  simpa using h2 x hx
 | some i =>
  obtain⟨hi,h3⟩:=zI h
  rw[show(decide ((0:Int)≤((i:Nat):Int)))=true by simp]
  symm
  rw[List.any_eq_true]
  exact⟨_,List.getElem_mem hi,by simpa using h3⟩
theorem aby{w:World}{a b:aj}(h:fJ K w a)(h':fJ K w b):Calls Tryz.prog 28 #[a.v,b.v] w fun e w'=>e = .returned (.bool (decide (a.key=b.key)))∧Ext w w':=by
 rw[←aa6 h.nrm h'.nrm]; exact JU h h'
theorem ZN{w:World}{a:aj}(h:fJ K w a):Calls Tryz.prog 90 #[a.v] w fun e w'=>e = .returned (.int .i64 a.checkN)∧Ext w w':=by
 rw[←Rt]; exact KA h
theorem WT{w:World}{a:Option Addr}{L:List aj}{c i:Nat}(h:aT 47 aj.cells w (.slice a L.length c) L)(hi:i≤L.length):aT 47 aj.cells w (.slice (Sx.wz a 0 c 47) i c) (L.take i):=by
 have:=Sx.rE h (Nat.zero_le i) hi (Nat.le_trans hi (Sx.pJ h)) (Nat.le_refl c)
 simpa using this
structure WU (l:List aj) (k:Nat):Prop where
 at':uN l k (nS ((keys l).take k))
 ok:∀(j:Nat) (hj:j<l.length),j<k→l[j].checkN=0
theorem WU.next{l:List aj}{k:Nat}{x:aj}(h:WU l k)(hk:k<l.length)(hx:l[k]=x)(hw:fA ((keys l).take k) x.key=0):WU l (k+1):=by
 refine⟨h.at'.next hk hx hw ?_,fun j hj hjk=>?_⟩
 ·rw[List.take_succ_eq_append_getElem (by simpa using hk),Gn,Cb hk hx]; rfl
 ·by_cases e:j=k
  ·subst e
   rw[hx,←nT]
   exact(Dh.1 hw).1
  ·exact h.ok j hj (by omega)
theorem WU.dep{l:List aj}{k:Nat}(h:WU l k):∀(j:Nat) (hj:j<l.length),j<k→0≤l[j].depth∧l[j].depth<8:=fun j hj hjk=>by
 have:=qJ (h.ok j hj hjk)
 omega
theorem WV{w:World}{v:Value}{l:List aj}(h:aT 47 aj.cells w v l){i:Nat}(hi:i<l.length){z:Int}(hz:z=(i:Int)){r:Nat}(hr:r=eu (keys l) i) :
  Calls Tryz.prog 68 #[v,.int .i64 z] w fun e w'=>e = .returned (.int .i64 ((r:Nat):Int))∧Ext w w':=by
 subst hz hr
 obtain⟨a,cap,rfl⟩:=h.shape
 have hmax:l.length≤9223372036854775807:=h.len
 refine aiK Tryz.func68 Tryz.ntmps68 fun ac S=>aiG fun _ aU=>adr S 1 [] [(4,.int .i64 0)] fun ac S=>aiF<|aU _ _<|aiG fun _ fE=>adr S 3 [.re 7 (.int .i64 (IntKind.i64.wrap (((i:Nat):Int)+1))) (.int .i64 (((i+1):Nat):Int))] [(5,.int .i64 (((i+1):Nat):Int))] (hk:=⟨aiR (by omega),trivial⟩) fun ac S=>aiF<|fE _ _<|wp_seq_k fun _ gW=>wp_block ?_
 refine Vp.loop (ι:=Nat) (fun p a' w'=>(i<p∧p≤l.length∧∀j,i<j→j<p→bP (keys l) i<bP (keys l) j)∧Sx.St w a' w' 28 [(0,.slice a l.length cap),(1,.int .i64 ((i:Nat):Int)),(4,.int .i64 0),(5,.int .i64 ((p:Nat):Int))] [] []) (fun p=>l.length-p) ((i+1)) ⟨⟨by omega,by omega,fun j h1 h2=>by omega⟩,(S.sub [(0,.slice a l.length cap),(1,.int .i64 ((i:Nat):Int)),(4,.int .i64 0),(5,.int .i64 (((i+1):Nat):Int))]).aK⟩ ?_
 rintro k ac u hI
 try dsimp only at hI
 obtain⟨hR,S⟩:=hI
 refine wp_seq_k fun _ lG=>wp_seq_k (fun _ bV=>?_)
 rcases Nat.lt_or_ge k l.length with hk | hk
 ·have ek:decide (((k:Nat):Int)<((l.length:Nat):Int))=true:=decide_eq_true (by omega)
  obtain⟨b1,o1,c1,hv1,hb1,hr1⟩:=Vp.aF h (fun _=>rfl) i hi
  simp only[Value.slice.injEq,true_and]at hv1
  obtain⟨rfl,rfl⟩:=hv1
  obtain⟨b2,o2,c2,hv2,hb2,hr2⟩:=Vp.aF h (fun _=>rfl) k hk
  simp only[Value.slice.injEq,Option.some.injEq,Addr.mk.injEq,true_and,and_true]at hv2
  obtain⟨⟨rfl,rfl⟩,rfl⟩:=hv2
  obtain⟨x,hx⟩:∃z,l[i]=z:=⟨_,rfl⟩
  rw[hx]at hr1
  obtain⟨y,hy⟩:∃z,l[k]=z:=⟨_,rfl⟩
  rw[hy]at hr2
  have S:=S.view0 hb1 hr1
  have S:=S.view0 hb2 hr2
  refine aiO S 17 [.re 11 (.bool (decide (((k:Nat):Int)<((l.length:Nat):Int)))) (.bool true),.idx k l.length,.mem 0 2,.idx i l.length,.mem 1 2] [] [(24,.bool (decide (x.depth<y.depth)))] trivial (hk:=⟨(congrArg Value.bool ek),hk,hi,trivial⟩) fun ac u E6 S=>aiF (bV _ _ ?_)
  refine aiI S (fun kV=>?_) (fun kV=>?_)
  ·refine wp_skip<|lG _ _<|wp_block<|Vp.region<|adr S 3 [.re 26 (.int .i64 (IntKind.i64.wrap (((k:Nat):Int)+1))) (.int .i64 (((k+1):Nat):Int))] [(5,.int .i64 (((k+1):Nat):Int))] (hk:=⟨aiR (by omega),trivial⟩) fun ac S=>aiF ?_
   show ∃i',_∧_
   exact⟨(k+1),⟨⟨by omega,by omega,fun j h1 h2=>by
    by_cases e:j=k
    ·subst e; rw[dK hi,dK hk,hx,hy]; have:=of_decide_eq_true kV; omega
    ·exact hR.2.2 j h1 (by omega)⟩,(S.sub [(0,.slice (some ⟨b1,o1,none⟩) l.length cap),(1,.int .i64 ((i:Nat):Int)),(4,.int .i64 0),(5,.int .i64 (((k+1):Nat):Int))]).aK⟩,by show l.length-(k+1)<l.length-k; omega⟩
  ·refine wp_exit<|gW _ _<|aiG fun _ dP=>adr S 2 [] [(4,.int .i64 ((k:Nat):Int))] fun ac S=>aiF<|dP _ _<|Vp.rt ?_
   refine aiH S Tryz.results68 ?_
   have he:eu (keys l) i=k:=by
    rw[rD (by simpa using hi)]
    exact Af (by simpa using hi) hR.1 (by simpa using hR.2.1) hR.2.2 (fun hk=>by rw[dK hi,dK (by simpa using hk),hx,hy]; have:=of_decide_eq_false kV; omega)
   exact⟨by rw[he],S.E⟩
 ·have ek:decide (((k:Nat):Int)<((l.length:Nat):Int))=false:=decide_eq_false (by omega)
  refine aiO S 17 [.re 11 (.bool (decide (((k:Nat):Int)<((l.length:Nat):Int)))) (.bool false),.dead 13 (.bool false),.dead 14 (.bool false),.dead 15 (.bool false),.dead 16 (.bool false),.dead 17 (.bool false),.dead 18 (.bool false),.dead 19 (.bool false),.dead 20 (.bool false),.dead 21 (.bool false),.dead 22 (.bool false),.dead 23 (.bool false)] [] [(24,.bool false)] trivial (hk:=⟨(congrArg Value.bool ek),trivial⟩) fun ac u E9 S=>aiF<|bV _ _<|aiY S<|wp_exit<|gW _ _<|aiG fun _ dV=>adr S 2 [] [(4,.int .i64 ((k:Nat):Int))] fun ac S=>aiF<|dV _ _<|Vp.rt ?_
  refine aiH S Tryz.results68 ?_
  have he:eu (keys l) i=k:=by
   rw[rD (by simpa using hi)]
   exact Af (by simpa using hi) hR.1 (by simpa using hR.2.1) hR.2.2 (fun hk2=>by simp at hk2; omega)
  exact⟨by rw[he],S.E⟩
theorem G6{w:World}{v:Value}{l:List aj}(h:aT 47 aj.cells w v l){id:Int} :
  Calls Tryz.prog 69 #[v,.int .i64 id] w fun e w'=>e = .returned (.int .i64 (iY (keys l) id))∧Ext w w':=by
 obtain⟨a,cap,rfl⟩:=h.shape
 have hmax:l.length≤9223372036854775807:=h.len
 refine aiK Tryz.func69 Tryz.ntmps69 fun ac S=>aiG fun _ aU=>adr S 1 [] [(4,.int .i64 0)] fun ac S=>aiF<|aU _ _<|wp_seq_k fun _ fE=>aiG fun _ gW=>adr S 1 [] [(5,.int .i64 0)] fun ac S=>aiF<|gW _ _<|wp_block ?_
 refine Vp.loop (ι:=Nat) (fun p a' w'=>p≤l.length∧(∀(j:Nat) (hj:j<l.length),j<p→l[j].id≠id)∧Sx.St w a' w' 20 [(0,.slice a l.length cap),(1,.int .i64 id),(4,.int .i64 0),(5,.int .i64 ((p:Nat):Int))] [] []) (fun p=>l.length-p) (0) ⟨Nat.zero_le _,fun j hj h=>by omega,(S.sub [(0,.slice a l.length cap),(1,.int .i64 id),(4,.int .i64 0),(5,.int .i64 ((0:Nat):Int))]).aK⟩ ?_
 rintro k ac u hI
 try dsimp only at hI
 obtain⟨hk,hR,S⟩:=hI
 refine wp_seq_k fun _ lG=>aiG fun _ bV=>adr S 4 [] [(9,.bool (decide (((k:Nat):Int)<((l.length:Nat):Int))))] fun ac S=>aiF (bV _ _ ?_)
 refine aiI S (fun hc6=>?_) (fun hc6=>?_)
 ·refine wp_skip<|lG _ _<|wp_seq_k fun _ kC=>wp_block<|aiG (fun _ dP=>?_)
  have tN:k<l.length:=by have:=of_decide_eq_true hc6; omega
  obtain⟨b9,o10,c11,hv,hb16,EO⟩:=Vp.aF h (fun _=>rfl) (k) tN
  simp only[Value.slice.injEq,true_and]at hv
  obtain⟨rfl,rfl⟩:=hv
  obtain⟨x15,wJ⟩:∃z,l[k]=z:=⟨_,rfl⟩
  rw[wJ]at EO
  have S:=S.view0 hb16 EO
  refine adr S 7 [.idx k l.length,.mem 0 0] [(18,.bool ((x15.id)==id))] (hk:=⟨tN,trivial⟩) fun ac S=>aiF (dP _ _ ?_)
  refine aiI S (fun hc17=>?_) (fun hc17=>?_)
  ·refine aiG fun _ je=>adr S 2 [] [(4,.int .i64 ((k:Nat):Int))] fun ac S=>aiF<|je _ _<|Vp.rt ?_
   refine aiH S Tryz.results69 ?_
   exact⟨by rw[Pj tN (by rw[wJ]; simpa using hc17) hR],S.E⟩
  ·refine wp_skip<|kC _ _<|Vp.region<|adr S 3 [.re 11 (.int .i64 (IntKind.i64.wrap (((k:Nat):Int)+1))) (.int .i64 (((k+1):Nat):Int))] [(5,.int .i64 (((k+1):Nat):Int))] (hk:=⟨aiR (by omega),trivial⟩) fun ac S=>aiF ?_
   show ∃i',_∧_
   exact⟨(k+1),⟨by omega,(Jt tN hR (by rw[wJ]; simpa using hc17)),(S.sub [(0,.slice (some ⟨b9,o10,none⟩) l.length cap),(1,.int .i64 id),(4,.int .i64 0),(5,.int .i64 (((k+1):Nat):Int))]).aK⟩,by show _-_<_-_; omega⟩
 ·refine wp_exit<|fE _ _<|aiG fun _ jf=>adr S 1 [] [(4,.int .i64 (-1))] fun ac S=>aiF<|jf _ _<|Vp.rt ?_
  refine aiH S Tryz.results69 ?_
  have hk:=of_decide_eq_false hc6
  exact⟨by rw[G7 (fun j hj=>hR j hj (by omega))],S.E⟩
theorem vP{w:World}{v:Value}{l:List aj}(h:aT 47 aj.cells w v l){i:Nat}(hi:i<l.length)(hd:0≤l[i].depth∧l[i].depth<8){q:Int}(hz:q=(i:Int)) :
  Calls Tryz.prog 71 #[v,.int .i64 q] w fun e w'=>e = .returned (.int .i64 (iL (bP (keys l)) i))∧Ext w w':=by
 subst hz
 obtain⟨a,cap,rfl⟩:=h.shape
 have hmax:l.length≤9223372036854775807:=h.len
 refine aiK Tryz.func71 Tryz.ntmps71 fun ac S=>aiG fun _ aU=>adr S 1 [] [(4,.int .i64 0)] fun ac S=>aiF<|aU _ _<|wp_seq_k fun _ fE=>aiG fun _ gW=>adr S 3 [Sx.kw 7 (((i:Nat):Int)-1)] [(5,.int .i64 (((i:Nat):Int)-1))] (hk:=⟨Sx.AX (by omega),trivial⟩) fun ac S=>aiF<|gW _ _<|wp_block ?_
 refine Vp.loop (ι:=Int) (fun p a' w'=>(-1≤p∧p<i∧lH (bP (keys l)) ((bP (keys l)) i-1) i=lH (bP (keys l)) ((bP (keys l)) i-1) (p+1).toNat)∧Sx.St w a' w' 25 [(0,.slice a l.length cap),(1,.int .i64 ((i:Nat):Int)),(4,.int .i64 0),(5,.int .i64 p)] [] []) (fun p=>(p+1).toNat) ((((i:Nat):Int)-1)) ⟨⟨by omega,by omega,by rw[show((i:Int)-1+1).toNat=i by omega]⟩,(S.sub [(0,.slice a l.length cap),(1,.int .i64 ((i:Nat):Int)),(4,.int .i64 0),(5,.int .i64 (((i:Nat):Int)-1))]).aK⟩ ?_
 rintro z ac u hI
 try dsimp only at hI
 obtain⟨hR,S⟩:=hI
 refine wp_seq_k fun _ lG=>aiG fun _ bV=>adr S 2 [] [(9,.bool (decide (0≤z)))] fun ac S=>aiF (bV _ _ ?_)
 refine aiI S (fun hc6=>?_) (fun hc6=>?_)
 ·obtain⟨j,rfl⟩:=zK (of_decide_eq_true hc6)
  rw[show((j:Int)+1).toNat=j+1 by omega]at hR
  refine wp_skip<|lG _ _<|wp_seq_k fun _ kC=>wp_block<|wp_seq_k (fun _ dP=>?_)
  have nG:j<l.length:=by omega
  obtain⟨b10,Vt,c12,hv,Dy,wH⟩:=Vp.aF h (fun _=>rfl) (j) nG
  simp only[Value.slice.injEq,true_and]at hv
  obtain⟨rfl,rfl⟩:=hv
  obtain⟨x16,pO⟩:∃z,l[j]=z:=⟨_,rfl⟩
  rw[pO]at wH
  have S:=S.view0 Dy wH
  have lt23:i<l.length:=by omega
  obtain⟨b18,o19,c20,hv,adZ,ZO⟩:=Vp.aF h (fun _=>rfl) (i) lt23
  simp only[Value.slice.injEq,Option.some.injEq,Addr.mk.injEq,true_and,and_true]at hv
  obtain⟨⟨rfl,rfl⟩,rfl⟩:=hv
  obtain⟨x24,Ld⟩:∃z,l[i]=z:=⟨_,rfl⟩
  rw[Ld]at ZO
  have hd0:0≤x24.depth∧x24.depth<8:=Ld▸hd
  have S:=S.view0 adZ ZO
  refine aiO S 12 [.idx j l.length,.mem 1 2,.idx i l.length,.mem 0 2,Sx.kw 22 (x24.depth-1)] [] [(23,.bool ((x16.depth)==(x24.depth-1)))] trivial (hk:=⟨nG,lt23,Sx.AX (by omega),trivial⟩) fun ac u E9 S=>aiF (dP _ _ ?_)
  refine aiI S (fun Sv=>?_) (fun Sv=>?_)
  ·refine aiG fun _ lJ=>adr S 2 [] [(4,.int .i64 ((j:Nat):Int))] fun ac S=>aiF<|lJ _ _<|Vp.rt ?_
   refine aiH S Tryz.results71 ?_
   exact⟨by unfold iL; rw[hR.2.2,UC nG hi (by rw[pO,Ld]; simpa using Sv)],S.E⟩
  ·refine wp_skip<|kC _ _<|Vp.region<|adr S 3 [Sx.kw 11 (((j:Nat):Int)-1)] [(5,.int .i64 (((j:Nat):Int)-1))] (hk:=⟨Sx.AX (by omega),trivial⟩) fun ac S=>aiF ?_
   show ∃i',_∧_
   exact⟨(((j:Nat):Int)-1),⟨⟨by omega,by omega,by rw[hR.2.2,show((j:Int)-1+1).toNat=j by omega]; exact ZP nG hi (by rw[pO,Ld]; simpa using Sv)⟩,(S.sub [(0,.slice (some ⟨b10,Vt,none⟩) l.length cap),(1,.int .i64 ((i:Nat):Int)),(4,.int .i64 0),(5,.int .i64 (((j:Nat):Int)-1))]).aK⟩,by show((j:Int)-1+1).toNat<((j:Int)+1).toNat; omega⟩
 ·refine wp_exit<|fE _ _<|aiG fun _ lK=>adr S 1 [] [(4,.int .i64 (-1))] fun ac S=>aiF<|lK _ _<|Vp.rt ?_
  refine aiH S Tryz.results71 ?_
  have hz:=of_decide_eq_false hc6
  exact⟨by unfold iL; rw[hR.2.2,show(z+1).toNat=0 by omega]; rfl,S.E⟩
theorem Le{w:World}{v:Value}{l:List aj}(h:aT 47 aj.cells w v l){i:Nat}(hi:i<l.length)(hd:∀(j:Nat) (hj:j<l.length),j<i→0≤l[j].depth∧l[j].depth<8){q:Int}(hz:q=(i:Int)) :
  Calls Tryz.prog 91 #[v,.int .i64 q] w fun e w'=>e = .returned (.bool (sZ ((keys l).take i) l[i].key))∧Ext w w':=by
 subst hz
 obtain⟨a,cap,rfl⟩:=h.shape
 have hmax:l.length≤9223372036854775807:=h.len
 refine aiK Tryz.func91 Tryz.ntmps91 fun ac S=>aiG fun _ aU=>adr S 1 [] [(4,.bool false)] fun ac S=>aiF<|aU _ _<|wp_seq_k fun _ fE=>aiG fun _ gW=>adr S 2 [] [(6,.bool ((((i:Nat):Int))==0))] fun ac S=>aiF (gW _ _ ?_)
 refine aiI S (fun hc4=>?_) (fun hc4=>?_)
 ·refine aiG (fun _ bV=>?_)
  obtain rfl:i=0:=by simpa using hc4
  have afo:0<l.length:=by omega
  obtain⟨b6,o7,c8,hv,ac4,hr9⟩:=Vp.aF h (fun _=>rfl) (0) afo
  simp only[Value.slice.injEq,true_and]at hv
  obtain⟨rfl,rfl⟩:=hv
  obtain⟨x12,afp⟩:∃z,l[0]=z:=⟨_,rfl⟩
  rw[afp]at hr9
  have S:=S.view0 ac4 hr9
  refine adr S 7 [.idx 0 l.length,.mem 0 2] [(4,.bool ((x12.depth)==0))] (hk:=⟨afo,trivial⟩) fun ac S=>aiF<|bV _ _<|Vp.rt ?_
  refine aiH S Tryz.results91 ?_
  exact⟨by rw[afp]; rfl,S.E⟩
 ·refine wp_skip<|fE _ _<|wp_seq_k fun _ fU=>wp_seq_k (fun _ fH=>?_)
  obtain⟨j,rfl⟩:∃j,i=j+1:=⟨i-1,by have:=hc4; simp at this; omega⟩
  have WW:j<l.length:=by omega
  obtain⟨b17,o18,c19,hv,Qx,afq⟩:=Vp.aF h (fun _=>rfl) (j) WW
  simp only[Value.slice.injEq,true_and]at hv
  obtain⟨rfl,rfl⟩:=hv
  obtain⟨x23,abz⟩:∃z,l[j]=z:=⟨_,rfl⟩
  rw[abz]at afq
  have hd0:0≤x23.depth∧x23.depth<8:=abz▸hd j (by omega) (by omega)
  have S:=S.view0 Qx afq
  have ad1:(j+1)<l.length:=by omega
  obtain⟨b25,o26,c27,hv,PE,afr⟩:=Vp.aF h (fun _=>rfl) ((j+1)) ad1
  simp only[Value.slice.injEq,Option.some.injEq,Addr.mk.injEq,true_and,and_true]at hv
  obtain⟨⟨rfl,rfl⟩,rfl⟩:=hv
  obtain⟨x31,hx29⟩:∃z,l[(j+1)]=z:=⟨_,rfl⟩
  rw[hx29]at afr
  have S:=S.view0 PE afr
  refine aiO S 22 [.re 15 (.int .i64 (IntKind.i64.wrap (((j+1:Nat):Int)-1))) (.int .i64 ((j:Nat):Int)),.idx j l.length,.mem 1 1,.idx (j+1) l.length,.mem 0 2,.re 28 (.int .i64 (IntKind.i64.wrap (((j+1:Nat):Int)-1))) (.int .i64 ((j:Nat):Int)),.idx j l.length,.mem 1 2,Sx.kw 32 (x23.depth+1)] [] [(34,.bool (((x23.kind)==1)&&((x31.depth)==(x23.depth+1))))] trivial (hk:=⟨(zN (by omega)),WW,ad1,(zN (by omega)),WW,Sx.AX (by omega),trivial⟩) fun ac u Pz S=>aiF (fH _ _ ?_)
  refine aiI S (fun nU=>?_) (fun nU=>?_)
  ·refine aiG fun _ uQ=>adr S 1 [] [(4,.bool true)] fun ac S=>aiF<|uQ _ _<|Vp.rt ?_
   refine aiH S Tryz.results91 ?_
   exact⟨by rw[hx29,Dp WW abz,nU]; rfl,S.E⟩
  ·refine wp_skip<|fU _ _<|wp_seq_k fun _ oK=>aiO S 12 [.idx (j+1) l.length,.mem 0 2,.re 42 (.int .i64 (IntKind.i64.wrap (((j+1:Nat):Int)-1))) (.int .i64 ((j:Nat):Int)),.idx j l.length,.mem 1 2] [] [(46,.bool (decide (x31.depth≤x23.depth)))] trivial (hk:=⟨ad1,(zN (by omega)),WW,trivial⟩) fun ac u E36 S=>adr S 1 [] [(4,.bool (decide (x31.depth≤x23.depth)))] fun ac S=>aiF<|oK _ _<|Vp.rt ?_
   refine aiH S Tryz.results91 ?_
   exact⟨by rw[hx29,Dp WW abz,nU,Bool.false_or],S.E⟩
theorem Pm{w:World}{v:Value}{l:List aj}(h:oq K w v l){i:Nat}(hi:i<l.length)(hd:∀(j:Nat) (hj:j<l.length),j<i→0≤l[j].depth∧l[j].depth<8){q:Int}(hz:q=(i:Int)) :
  Calls Tryz.prog 55 #[v,.int .i64 q] w fun e w'=>e = .returned (.int .i64 (fA ((keys l).take i) l[i].key))∧Ext w w':=by
 subst hz
 obtain⟨a,cap,rfl⟩:=h.1.shape
 have hmax:l.length≤9223372036854775807:=h.1.len
 have hlc:=Sx.pJ h.1
 refine aiK Tryz.func55 Tryz.ntmps55 fun ac S=>aiG fun _ aU=>adr S 1 [] [(4,.int .i64 0)] fun ac S=>aiF<|aU _ _<|wp_seq_k fun _ fE=>aiG (fun _ gW=>?_)
 have lt9:i<l.length:=hi
 obtain⟨b4,o5,c6,hv,LJ,hr7⟩:=Vp.aF h.1 (fun _=>rfl) (i) lt9
 simp only[Value.slice.injEq,true_and]at hv
 obtain⟨rfl,rfl⟩:=hv
 obtain⟨x10,QO⟩:∃z,l[i]=z:=⟨_,rfl⟩
 rw[QO]at hr7
 have S:=S.view0 LJ hr7
 refine adr S 4 [.idx i l.length,.mem 0 0] [(9,x10.v)] (hk:=⟨lt9,trivial⟩) fun ac S=>aiM S 10 (ZN ((h.2 _ (QO▸List.getElem_mem lt9)).below S.E)) fun ac u H6 S=>adr S 1 [] [(5,.int .i64 x10.checkN)] fun ac S=>aiF<|gW _ _<|aiG fun _ fZ=>adr S 2 [] [(12,.bool ((x10.checkN) != 0))] fun ac S=>aiF (fZ _ _ ?_)
 refine aiI S (fun nZ=>?_) (fun nZ=>?_)
 ·refine aiG fun _ fH=>adr S 2 [] [(4,.int .i64 x10.checkN)] fun ac S=>aiF<|fH _ _<|Vp.rt ?_
  refine aiH S Tryz.results55 ?_
  exact⟨by rw[QO,G8 (by simpa using nZ)],S.E⟩
 ·refine wp_skip<|fE _ _<|wp_seq_k fun _ iR=>wp_seq_k fun _ ig=>aiO S 10 [.slc 0 i cap cap,.idx i l.length,.mem 0 0] [(_,_,true,.int .i64 (iY (keys (l.take i)) x10.id))] [(23,.bool (decide (0≤(iY (keys (l.take i)) x10.id))))] ⟨fun u hC g=>G6 (id:=x10.id) ((WT h.1 (Nat.le_of_lt hi)).below (Ext.trans' S.E hC)),trivial⟩ (hk:=⟨⟨Nat.zero_le _,by omega,Nat.le_refl _⟩,lt9,trivial⟩) fun ac u JD S=>aiF (ig _ _ ?_)
  refine aiI S (fun hc19=>?_) (fun hc19=>?_)
  ·refine aiG fun _ iU=>adr S 1 [] [(4,.int .i64 7)] fun ac S=>aiF<|iU _ _<|Vp.rt ?_
   have hc0:x10.checkN=0:=by simpa using nZ
   have hfa:=G5 (l:=l.take i) (id:=x10.id)
   rw[show keys (l.take i)=(keys l).take i from List.map_take ..]at hfa
   have hq1:=hc19
   rw[show keys (l.take i)=(keys l).take i from List.map_take ..,hfa]at hq1
   refine aiH S Tryz.results55 ?_
   exact⟨by rw[QO,Ju hc0 hq1],S.E⟩
  ·refine wp_skip<|iR _ _<|wp_seq_k fun _ jo=>aiG fun _ jM=>adr S 2 [] [(24,.slice (some ⟨b4,o5,none⟩) l.length cap),(25,.int .i64 ((i:Nat):Int))] fun ac S=>aiM S 26 (jO (Le (h.1.below S.E) hi hd rfl) (show Value.bool (sZ ((keys l).take i) l[i].key) = .bool (sZ ((keys l).take i) x10.key) by rw[QO])) fun ac u JA S=>adr S 1 [] [(27,.bool (!(sZ ((keys l).take i) x10.key)))] fun ac S=>aiF (jM _ _ ?_)
   refine aiI S (fun hc24=>?_) (fun hc24=>?_)
   ·refine aiG fun _ wB=>adr S 1 [] [(4,.int .i64 17)] fun ac S=>aiF<|wB _ _<|Vp.rt ?_
    have hc0:x10.checkN=0:=by simpa using nZ
    have hfa:=G5 (l:=l.take i) (id:=x10.id)
    rw[show keys (l.take i)=(keys l).take i from List.map_take ..]at hfa
    have hq1:=hc19
    rw[show keys (l.take i)=(keys l).take i from List.map_take ..,hfa]at hq1
    have hst:=Gp (pre:=(keys l).take i) (x:=x10.key) (by rw[nT]; exact hc0)
    refine aiH S Tryz.results55 ?_
    exact⟨by rw[QO,Dq hc0 hq1 (by have:=hc24; rw[hst]at this; simp at this; exact this)],S.E⟩
   ·refine wp_skip<|jo _ _<|aiG fun _ kH=>adr S 1 [] [(4,.int .i64 0)] fun ac S=>aiF<|kH _ _<|Vp.rt ?_
    have hc0:x10.checkN=0:=by simpa using nZ
    have hfa:=G5 (l:=l.take i) (id:=x10.id)
    rw[show keys (l.take i)=(keys l).take i from List.map_take ..]at hfa
    have hq1:=hc19
    rw[show keys (l.take i)=(keys l).take i from List.map_take ..,hfa]at hq1
    have hst:=Gp (pre:=(keys l).take i) (x:=x10.key) (by rw[nT]; exact hc0)
    refine aiH S Tryz.results55 ?_
    exact⟨by rw[QO,G9 hc0 hq1 (by have:=hc24; rw[hst]at this; simp at this; exact this)],S.E⟩
theorem Dk{w:World}{s:aS}(h:bW K w s) :
  Calls Tryz.prog 21 #[s.v] w fun e w'=>e = .returned (.tuple #[.int .i64 s.key.chk.1,.int .i64 s.key.chk.2])∧Ext w w':=by
 have hmax:s.ns.length≤9223372036854775807:=h.2.2.1.len
 refine aiK Tryz.func21 Tryz.ntmps21 fun ac S=>aiG fun _ aU=>aiJ S 1 s.cells fun ac u b2 E3 hb4 S=>adr S 2 [] [(2,.int .i64 0),(3,.int .i64 0)] fun ac S=>aiF<|aU _ _<|wp_seq_k fun _ bV=>aiG fun _ iK=>adr S 18 [.mem 0 0,.mem 0 0,.mem 0 1,.mem 0 1] [(23,.bool ((((decide (s.w<1))||(decide (256<s.w)))||(decide (s.h<1)))||(decide (256<s.h))))] fun ac S=>aiF (iK _ _ ?_)
 refine aiI S (fun kV=>?_) (fun kV=>?_)
 ·refine aiG fun _ dP=>adr S 2 [] [(2,.int .i64 6),(3,.int .i64 0)] fun ac S=>aiF<|dP _ _<|Vp.rt ?_
  refine Sx.vM S Tryz.results21 ?_
  exact⟨by rw[Pn (s:=s.key) kV],S.E⟩
 ·refine wp_skip<|bV _ _<|wp_seq_k fun _ gB=>aiG fun _ dV=>adr S 4 [.mem 0 6] [(27,.bool (decide (64<((s.ns.length:Nat):Int))))] fun ac S=>aiF (dV _ _ ?_)
  refine aiI S (fun gu=>?_) (fun gu=>?_)
  ·refine aiG fun _ dw=>adr S 2 [] [(2,.int .i64 5),(3,.int .i64 64)] fun ac S=>aiF<|dw _ _<|Vp.rt ?_
   have hq:=nC (s:=s.key) kV
   rw[show s.key.ns=keys s.ns from rfl,List.length_map]at hq
   refine Sx.vM S Tryz.results21 ?_
   exact⟨by rw[hq,if_pos (by have:=of_decide_eq_true gu; omega)],S.E⟩
  ·refine wp_skip<|gB _ _<|wp_seq_k fun _ fZ=>aiG fun _ fU=>adr S 1 [] [(4,.int .i64 0)] fun ac S=>aiF<|fU _ _<|wp_block ?_
   refine Vp.loop (ι:=Nat) (fun p a' w'=>p≤s.ns.length∧(WU s.ns p)∧Sx.St w a' w' 43 [(0,s.v),(1,.pointer (some ⟨b2,0,none⟩)),(2,.int .i64 0),(3,.int .i64 0),(4,.int .i64 ((p:Nat):Int))] [(b2,s.cells)] []) (fun p=>s.ns.length-p) (0) ⟨Nat.zero_le _,⟨uN.start _,fun j hj h=>by omega⟩,(S.sub [(0,s.v),(1,.pointer (some ⟨b2,0,none⟩)),(2,.int .i64 0),(3,.int .i64 0),(4,.int .i64 ((0:Nat):Int))]).aK⟩ ?_
   rintro k ac u hI
   try dsimp only at hI
   obtain⟨hk,hR,S⟩:=hI
   refine wp_seq_k fun _ fH=>aiG fun _ iR=>adr S 5 [.mem 0 6] [(32,.bool (decide (((k:Nat):Int)<((s.ns.length:Nat):Int))))] fun ac S=>aiF (iR _ _ ?_)
   refine aiI S (fun hc17=>?_) (fun hc17=>?_)
   ·refine wp_skip<|fH _ _<|wp_seq_k fun _ je=>wp_block<|aiG fun _ jf=>adr S 3 [.mem 0 6] [(36,s.s),(37,.int .i64 ((k:Nat):Int))] (fun ac S=>?_)
    have hk1:k<s.ns.length:=by have:=of_decide_eq_true hc17; omega
    obtain⟨x,hx⟩:∃z,s.ns[k]=z:=⟨_,rfl⟩
    refine aiM S 38 (jO (Pm (h.2.2.below S.E) hk1 hR.dep rfl) (show Value.int .i64 (fA ((keys s.ns).take k) s.ns[k].key) = .int .i64 (fA ((keys s.ns).take k) x.key) by rw[hx])) fun ac u Iz S=>adr S 1 [] [(5,.int .i64 (fA ((keys s.ns).take k) x.key))] fun ac S=>aiF<|jf _ _<|aiG fun _ jo=>adr S 2 [] [(40,.bool (((fA ((keys s.ns).take k) x.key)) != 0))] fun ac S=>aiF (jo _ _ ?_)
    refine aiI S (fun hc22=>?_) (fun hc22=>?_)
    ·refine aiG fun _ oJ=>adr S 4 [] [(2,.int .i64 (fA ((keys s.ns).take k) x.key)),(3,.int .i64 ((k:Nat):Int))] fun ac S=>aiF<|oJ _ _<|Vp.rt ?_
     have hq:=nC (s:=s.key) kV
     rw[show s.key.ns=keys s.ns from rfl,List.length_map]at hq
     refine Sx.vM S Tryz.results21 ?_
     rw[if_neg (by have:=of_decide_eq_false gu; omega)]at hq
     exact⟨by rw[hq,hR.at'.bad hk1 hx rfl (by simpa using hc22)],S.E⟩
    ·refine wp_skip<|je _ _<|Vp.region<|adr S 3 [.re 34 (.int .i64 (IntKind.i64.wrap (((k:Nat):Int)+1))) (.int .i64 (((k+1):Nat):Int))] [(4,.int .i64 (((k+1):Nat):Int))] (hk:=⟨aiR (by omega),trivial⟩) fun ac S=>aiF ?_
     show ∃i',_∧_
     exact⟨(k+1),⟨by omega,hR.next hk1 hx (by simpa using hc22),(S.sub [(0,s.v),(1,.pointer (some ⟨b2,0,none⟩)),(2,.int .i64 0),(3,.int .i64 0),(4,.int .i64 (((k+1):Nat):Int))]).aK⟩,by show _-_<_-_; omega⟩
   ·refine wp_exit<|fZ _ _<|aiG fun _ kK=>adr S 2 [] [(2,.int .i64 0),(3,.int .i64 0)] fun ac S=>aiF<|kK _ _<|Vp.rt ?_
    have hq:=nC (s:=s.key) kV
    rw[show s.key.ns=keys s.ns from rfl,List.length_map]at hq
    refine Sx.vM S Tryz.results21 ?_
    rw[if_neg (by have:=of_decide_eq_false gu; omega)]at hq
    exact⟨by rw[hq,hR.at'.done (by have:=of_decide_eq_false hc17; omega)],S.E⟩
theorem xu{w:World}{s:aS}(h:bW K w s) :
  Calls Tryz.prog 51 #[s.v] w fun e w'=>e = .returned (.bool s.key.valid)∧Ext w w':=by
 skip
 refine aiK Tryz.func51 Tryz.ntmps51 fun ac S=>aiG fun _ aU=>aiJ S 1 s.cells fun ac u b2 E3 hb4 S=>adr S 1 [] [(2,.bool false)] fun ac S=>aiF<|aU _ _<|aiG fun _ bV=>adr S 1 [.mem 0 0] [(6,s.v)] fun ac S=>aiM S 7 (Dk (h.below S.E)) fun ac u E6 S=>adr S 5 [] [(3,.int .i64 s.key.chk.1)] fun ac S=>aiF<|bV _ _<|aiG fun _ kC=>adr S 3 [] [(2,.bool ((s.key.chk.1)==0))] fun ac S=>aiF<|kC _ _<|Vp.rt ?_
 refine aiH S Tryz.results51 ?_
 exact⟨rfl,S.E⟩
theorem tu{w:World}{s:aS}(h:bW K w s)(i:Int) :
  Calls Tryz.prog 67 #[s.v,.int .i64 i] w fun e w'=>e = .returned (.bool (s.key.has i))∧Ext w w':=by
 skip
 refine aiK Tryz.func67 Tryz.ntmps67 fun ac S=>aiG fun _ aU=>aiJ S 2 s.cells fun ac u b2 E3 hb4 S=>adr S 1 [] [(4,.bool false)] fun ac S=>aiF<|aU _ _<|aiG fun _ bV=>adr S 1 [.mem 0 0] [(5,s.v)] fun ac S=>aiM S 6 (xu (h.below S.E)) fun ac u E6 S=>adr S 12 [.mem 0 6] [(4,.bool ((s.key.valid&&(decide (0≤i)))&&(decide (i<((s.ns.length:Nat):Int)))))] fun ac S=>aiF<|bV _ _<|Vp.rt ?_
 refine aiH S Tryz.results67 ?_
 exact⟨by unfold aP.has; rw[show s.key.ns.length=s.ns.length from List.length_map ..,Bool.and_assoc,Bool.and_comm],S.E⟩
theorem OJ{w:World}{s:aS}(h:bW K w s)(id:Int) :
  Calls Tryz.prog 34 #[s.v,.int .i64 id] w fun e w'=>e = .returned (.int .i64 (s.key.index id))∧Ext w w':=by
 skip
 refine aiK Tryz.func34 Tryz.ntmps34 fun ac S=>aiG fun _ aU=>aiJ S 2 s.cells fun ac u b2 E3 hb4 S=>adr S 1 [] [(4,.int .i64 0)] fun ac S=>aiF<|aU _ _<|wp_seq_k fun _ bV=>aiG fun _ iK=>adr S 1 [.mem 0 0] [(5,s.v)] fun ac S=>aiM S 6 (xu (h.below S.E)) fun ac u E7 S=>adr S 1 [] [(7,.bool (!s.key.valid))] fun ac S=>aiF (iK _ _ ?_)
 refine aiI S (fun hc8=>?_) (fun hc8=>?_)
 ·refine aiG fun _ gB=>adr S 1 [] [(4,.int .i64 (-1))] fun ac S=>aiF<|gB _ _<|Vp.rt ?_
  refine aiH S Tryz.results34 ?_
  exact⟨by unfold aP.index; rw[if_neg (by simpa using hc8)],S.E⟩
 ·refine wp_skip<|bV _ _<|aiG (fun _ dV=>?_)
  have hv:s.key.valid=true:=by simpa using hc8
  refine adr S 3 [.mem 0 6] [(9,s.s),(10,.int .i64 id)] fun ac S=>aiM S 11 (G6 (id:=id) (h.2.2.1.below S.E)) fun ac u sF S=>adr S 1 [] [(4,.int .i64 (iY (keys s.ns) id))] fun ac S=>aiF<|dV _ _<|Vp.rt ?_
  refine aiH S Tryz.results34 ?_
  exact⟨by unfold aP.index; rw[if_pos hv]; rfl,S.E⟩
theorem OL{w:World}{s:aS}(h:bW K w s)(i:Int) :
  Calls Tryz.prog 35 #[s.v,.int .i64 i] w fun e w'=>e = .returned (.int .i64 (s.key.endOf i))∧Ext w w':=by
 skip
 refine aiK Tryz.func35 Tryz.ntmps35 fun ac S=>aiG fun _ aU=>aiJ S 2 s.cells fun ac u b2 E3 hb4 S=>adr S 1 [] [(4,.int .i64 0)] fun ac S=>aiF<|aU _ _<|wp_seq_k fun _ bV=>aiG fun _ iK=>adr S 2 [.mem 0 0] [(5,s.v),(6,.int .i64 i)] fun ac S=>aiM S 7 (tu (h.below S.E) i) fun ac u E7 S=>adr S 1 [] [(8,.bool (!(s.key.has i)))] fun ac S=>aiF (iK _ _ ?_)
 refine aiI S (fun hc8=>?_) (fun hc8=>?_)
 ·refine aiG fun _ gB=>adr S 1 [] [(4,.int .i64 (-1))] fun ac S=>aiF<|gB _ _<|Vp.rt ?_
  refine aiH S Tryz.results35 ?_
  exact⟨by unfold aP.endOf; rw[if_neg (by simpa using hc8)],S.E⟩
 ·refine wp_skip<|bV _ _<|aiG (fun _ dV=>?_)
  have hh:s.key.has i=true:=by simpa using hc8
  obtain⟨hv,k,rfl,hk⟩:=xk hh
  refine adr S 3 [.mem 0 6] [(10,s.s),(11,.int .i64 ((k:Nat):Int))] fun ac S=>aiM S 12 (WV (h.2.2.1.below S.E) hk rfl rfl) fun ac u sF S=>adr S 1 [] [(4,.int .i64 ((eu (keys s.ns) k:Nat):Int))] fun ac S=>aiF<|dV _ _<|Vp.rt ?_
  refine aiH S Tryz.results35 ?_
  exact⟨by unfold aP.endOf; rw[if_pos hh]; rfl,S.E⟩
theorem OM{w:World}{s:aS}(h:bW K w s)(i:Int) :
  Calls Tryz.prog 37 #[s.v,.int .i64 i] w fun e w'=>e = .returned (.int .i64 (s.key.sJ i))∧Ext w w':=by
 skip
 refine aiK Tryz.func37 Tryz.ntmps37 fun ac S=>aiG fun _ aU=>aiJ S 2 s.cells fun ac u b2 E3 hb4 S=>adr S 1 [] [(4,.int .i64 0)] fun ac S=>aiF<|aU _ _<|wp_seq_k fun _ bV=>aiG fun _ iK=>adr S 2 [.mem 0 0] [(5,s.v),(6,.int .i64 i)] fun ac S=>aiM S 7 (tu (h.below S.E) i) fun ac u E7 S=>adr S 1 [] [(8,.bool (!(s.key.has i)))] fun ac S=>aiF (iK _ _ ?_)
 refine aiI S (fun hc8=>?_) (fun hc8=>?_)
 ·refine aiG fun _ gB=>adr S 1 [] [(4,.int .i64 (-1))] fun ac S=>aiF<|gB _ _<|Vp.rt ?_
  refine aiH S Tryz.results37 ?_
  exact⟨by unfold aP.sJ; rw[if_neg (by simpa using hc8)],S.E⟩
 ·refine wp_skip<|bV _ _<|aiG (fun _ dV=>?_)
  have hh:s.key.has i=true:=by simpa using hc8
  obtain⟨hv,k,rfl,hk⟩:=xk hh
  refine adr S 3 [.mem 0 6] [(10,s.s),(11,.int .i64 ((k:Nat):Int))] fun ac S=>aiM S 12 (vP (h.2.2.1.below S.E) hk (lD hv hk) rfl) fun ac u sF S=>adr S 1 [] [(4,.int .i64 (iL (bP (keys s.ns)) k))] fun ac S=>aiF<|dV _ _<|Vp.rt ?_
  refine aiH S Tryz.results37 ?_
  exact⟨by unfold aP.sJ; rw[if_pos hh]; rfl,S.E⟩
theorem OI{w:World}{s t:aS}(h:bW K w s)(h':bW K w t) :
  Calls Tryz.prog 19 #[s.v,t.v] w fun e w'=>e = .returned (.bool (decide (s.key=t.key)))∧Ext w w':=by
 have hmax:s.ns.length≤9223372036854775807:=h.2.2.1.len
 refine aiK Tryz.func19 Tryz.ntmps19 (fun ac S=>?_)
 obtain⟨a,cap,es⟩:∃a c,s.s = .slice a s.ns.length c:=⟨_,_,rfl⟩
 have hr:=h.2.2.1
 rw[es]at hr
 obtain⟨d,cap',et⟩:∃a c,t.s = .slice a t.ns.length c:=⟨_,_,rfl⟩
 have hr':=h'.2.2.1
 rw[et]at hr'
 refine aiG fun _ aU=>aiJ S 2 s.cells fun ac u b2 E3 hb4 S=>aiJ S 3 t.cells fun ac u b5 E6 hb7 S=>adr S 1 [] [(4,.bool false)] fun ac S=>aiF<|aU _ _<|wp_seq_k fun _ dP=>aiG fun _ gB=>adr S 28 [.mem 1 0,.mem 0 0,.mem 1 1,.mem 0 1,.mem 1 2,.mem 0 2,.cmp .neq 23 (.tmp 20) (.tmp 22) (.agg #[.int .u8 (s.bg.r.toNat:Int),.int .u8 (s.bg.g.toNat:Int),.int .u8 (s.bg.b.toNat:Int),.int .u8 (s.bg.a.toNat:Int)]) (.agg #[.int .u8 (t.bg.r.toNat:Int),.int .u8 (t.bg.g.toNat:Int),.int .u8 (t.bg.b.toNat:Int),.int .u8 (t.bg.a.toNat:Int)]) (.bool (!decide (s.bg=t.bg))),.mem 1 6,.re 27 s.s (.slice a s.ns.length cap),.mem 0 6,.re 30 t.s (.slice d t.ns.length cap')] [(33,.bool (((((s.w) != t.w)||((s.h) != t.h))||(!decide (s.bg=t.bg)))||((((s.ns.length:Nat):Int)) != ((t.ns.length:Nat):Int))))] (hk:=⟨(aiX (fun _=>ZQ s.bg t.bg _) (by kernel_rfl)),es,et,trivial⟩) fun ac S=>aiF (gB _ _ ?_)
 refine aiI S (fun bY=>?_) (fun bY=>?_)
 ·refine aiG fun _ dB=>adr S 1 [] [(4,.bool false)] fun ac S=>aiF<|dB _ _<|Vp.rt ?_
  refine aiH S Tryz.results19 ?_
  exact⟨aB (ab2 bY),S.E⟩
 ·refine wp_skip<|dP _ _<|wp_seq_k fun _ dw=>aiG fun _ fZ=>adr S 1 [] [(5,.int .i64 0)] fun ac S=>aiF<|fZ _ _<|wp_block ?_
  refine Vp.loop (ι:=Nat) (fun p a' w'=>p≤s.ns.length∧((keys s.ns).take p=(keys t.ns).take p)∧Sx.St w a' w' 53 [(0,s.v),(1,t.v),(2,.pointer (some ⟨b2,0,none⟩)),(3,.pointer (some ⟨b5,0,none⟩)),(4,.bool false),(5,.int .i64 ((p:Nat):Int))] [(b5,t.cells),(b2,s.cells)] []) (fun p=>s.ns.length-p) (0) ⟨Nat.zero_le _,rfl,(S.sub [(0,s.v),(1,t.v),(2,.pointer (some ⟨b2,0,none⟩)),(3,.pointer (some ⟨b5,0,none⟩)),(4,.bool false),(5,.int .i64 ((0:Nat):Int))]).aK⟩ ?_
  rintro k ac u hI
  try dsimp only at hI
  obtain⟨hk,hR,S⟩:=hI
  refine wp_seq_k fun _ fU=>aiG fun _ fH=>adr S 5 [.mem 1 6,.re 36 s.s (.slice a s.ns.length cap)] [(38,.bool (decide (((k:Nat):Int)<((s.ns.length:Nat):Int))))] (hk:=⟨es,trivial⟩) fun ac S=>aiF (fH _ _ ?_)
  refine aiI S (fun hc16=>?_) (fun hc16=>?_)
  ·refine wp_skip<|fU _ _<|wp_seq_k fun _ ig=>wp_block<|wp_seq_k (fun _ je=>?_)
   have vZ:k<s.ns.length:=by have:=of_decide_eq_true hc16; omega
   obtain⟨b20,o21,Hy,hv,Dw,ED⟩:=Vp.aF hr (fun _=>rfl) (k) vZ
   simp only[Value.slice.injEq,true_and]at hv
   obtain⟨rfl,rfl⟩:=hv
   obtain⟨IL,hx24⟩:∃z,s.ns[k]=z:=⟨_,rfl⟩
   rw[hx24]at ED
   have S:=S.view0 Dw ED
   have zk:k<t.ns.length:=by have:=Lh bY; have:=of_decide_eq_true hc16; omega
   obtain⟨b28,o29,c30,hv,Yf,MB⟩:=Vp.aF hr' (fun _=>rfl) (k) zk
   simp only[Value.slice.injEq,true_and]at hv
   obtain⟨rfl,rfl⟩:=hv
   obtain⟨y34,hx32⟩:∃z,t.ns[k]=z:=⟨_,rfl⟩
   rw[hx32]at MB
   have S:=S.view0 Yf MB
   refine aiO S 12 [.mem 1 6,.re 42 s.s (.slice (some ⟨b20,o21,none⟩) s.ns.length cap),.idx k s.ns.length,.mem 3 0,.mem 0 6,.re 47 t.s (.slice (some ⟨b28,o29,none⟩) t.ns.length cap'),.idx k t.ns.length,.mem 2 0] [(_,_,true,.bool (decide (IL.key=y34.key)))] [(52,.bool (!(decide (IL.key=y34.key))))] ⟨fun u hC g=>aby ((h.2.2.2 _ (hx24▸List.getElem_mem vZ)).below (Ext.trans' S.E hC)) ((h'.2.2.2 _ (hx32▸List.getElem_mem zk)).below (Ext.trans' S.E hC)),trivial⟩ (hk:=⟨es,vZ,et,zk,trivial⟩) fun ac u Xm S=>aiF (je _ _ ?_)
   refine aiI S (fun zn=>?_) (fun zn=>?_)
   ·refine aiG fun _ qo=>adr S 1 [] [(4,.bool false)] fun ac S=>aiF<|qo _ _<|Vp.rt ?_
    refine aiH S Tryz.results19 ?_
    exact⟨aB (UD bY (ab3 vZ zk hx24 hx32 zn)),S.E⟩
   ·refine wp_skip<|ig _ _<|Vp.region<|adr S 3 [.re 40 (.int .i64 (IntKind.i64.wrap (((k:Nat):Int)+1))) (.int .i64 (((k+1):Nat):Int))] [(5,.int .i64 (((k+1):Nat):Int))] (hk:=⟨aiR (by omega),trivial⟩) fun ac S=>aiF ?_
    show ∃i',_∧_
    exact⟨(k+1),⟨by omega,(UE vZ zk hR hx24 hx32 zn),(S.sub [(0,s.v),(1,t.v),(2,.pointer (some ⟨b2,0,none⟩)),(3,.pointer (some ⟨b5,0,none⟩)),(4,.bool false),(5,.int .i64 (((k+1):Nat):Int))]).aK⟩,by show _-_<_-_; omega⟩
  ·refine wp_exit<|dw _ _<|aiG fun _ jG=>adr S 1 [] [(4,.bool true)] fun ac S=>aiF<|jG _ _<|Vp.rt ?_
   refine aiH S Tryz.results19 ?_
   exact⟨aB (UD bY (ZR (by have:=of_decide_eq_false hc16; omega) (Lh bY) hR)),S.E⟩
end Go.Proofs.YtfmkkemfhjkajaaGreatDoor
