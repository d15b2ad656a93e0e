/- Reference 37: what it asks of scenes. -/
import Derived.Test.YtfmkkemfhjkajaaGreatDoorPk42
import Derived.Test.YtfmkkemfhjkajaaGreatDoorE36b
import Derived.Test.YtfmkkemfhjkajaaGreatDoorPk29
import Derived.Test.YtfmkkemfhjkajaaGreatDoorEx37
set_option maxHeartbeats 3200000
set_option maxRecDepth 100000
namespace Go.Proofs.YtfmkkemfhjkajaaGreatDoor
open Go.RowKit
variable{α:Type}{K:Nat}
set_option linter.unusedVariables false
theorem AL{j:Nat}(h:j+1≤9223372036854775807):Value.i (IntKind.i64.wrap (((j+1:Nat):Int)-1)) = .i j:=by
 have:IntKind.i64.wrap (((j+1:Nat):Int)-1)=(j:Int):=by rw[IntKind.wrap_i64]; omega
 rw[this]
theorem En{l:List aj}{j:Nat}{p x:aj}(hj:j<l.length)(hp:l[j]=p):uj ((keys l).take (j+1)) x.key=((((p.kind)==1)&&((x.depth)==(p.depth+1)))||decide (x.depth≤p.depth)):=by
 unfold uj;rw[List.take_succ_eq_append_getElem (by simpa using hj),List.getLast?_concat,List.getElem_map,hp];rfl
theorem IC{l:List aj}{id:Int}:decide (0≤gu (keys l) id)=(keys l).any fun κ=>κ.id==id:=by
 unfold gu;cases h:fU (keys l) id with
 | none =>
  have h2:=Ub.1 h;rw[show(decide ((0:Int) ≤ -1))=false from rfl];symm;rw[List.any_eq_false];intro x hx;simpa using h2 x hx
 | some i =>
  obtain⟨hi,h3⟩:=pR h;rw[show(decide ((0:Int)≤(i:Int)))=true by simp];symm;rw[List.any_eq_true];exact⟨_,List.getElem_mem hi,by simpa using h3⟩
theorem Wj{w:World}{a b:aj}(h:eF K w a)(h':eF K w b):Calls Tryz.prog 28 #[a.v,b.v] w fun e w'=>e = .returned (.bool (a.key=b.key))∧Ext w w':=by
 rw[←acL h.nrm h'.nrm]; exact Lc h h'
theorem abx{w:World}{a:aj}(h:eF K w a):Calls Tryz.prog 90 #[a.v] w fun e w'=>e = .returned (.i a.checkN)∧Ext w w':=by
 rw[←TY]; exact LX h
theorem Kv{w:World}{a:Option Addr}{L:List aj}{c i:Nat}(h:aN 47 aj.cells w (.slice a L.length c) L)(hi:i≤L.length):aN 47 aj.cells w (.slice (Sx.vY a 0 c 47) i c) (L.take i):=by
 have:=Sx.sG h (Nat.zero_le i) hi (Nat.le_trans hi (Sx.l7 h)) (Nat.le_refl c);simpa using this
structure YE (l:List aj) (k:Nat):Prop where
 at':vJ l k (oC ((keys l).take k))
 ok:∀(j:Nat) (hj:j<l.length),j<k→l[j].checkN=0
theorem YE.next{l:List aj}{k:Nat}{x:aj}(h:YE l k)(hk:k<l.length)(hx:l[k]=x)(hw:fH ((keys l).take k) x.key=0):YE l (k+1):=by
 refine⟨h.at'.next hk hx hw ?_,fun j hj hjk=>?_⟩
 ·rw[List.take_succ_eq_append_getElem (by simpa using hk),Hu,Dw hk hx]; rfl
 by_cases e:j=k
 ·subst e;rw[hx,←oG];exact(Ea.1 hw).1
 exact h.ok j hj (by omega)
theorem YE.dep{l:List aj}{k:Nat}(h:YE l k):∀(j:Nat) (hj:j<l.length),j<k→0≤l[j].depth∧l[j].depth<8:=fun j hj hjk=>by
 have:=rH (h.ok j hj hjk);omega
theorem Kw{w:World}{v:Value}{l:List aj}(h:aN 47 aj.cells w v l){i:Nat}(hi:i<l.length){z:Int}(hz:z=(i:Int)){r:Nat}(hr:r=dR (keys l) i) :
  Calls Tryz.prog 68 #[v,.i z] w fun e w'=>e = .returned (.i r)∧Ext w w':=by
 subst hz hr;obtain⟨a,cap,rfl⟩:=h.shape;have hmax:l.length≤9223372036854775807:=h.len;refine akk Tryz.func68 Tryz.ntmps68 fun ac S=>akg fun _ aP=>adr S 1 [] [(4,.i 0)] fun S=>akf<|aP _ _<|akg fun _ fE=>adr S 3 [.re 7 (.i (IntKind.i64.wrap ((i:Int)+1))) (.i (i+1:Nat))] [(5,.i (i+1:Nat))] (hk:=⟨aks (by omega),trivial⟩) fun S=>akf<|fE _ _<|wp_seq_k fun _ iM=>wp_block ?_;refine Vp.loop (ι:=Nat) (fun p a' w'=>(i<p∧p≤l.length∧∀j,i<j→j<p→iy (keys l) i<iy (keys l) j)∧Sx.St w a' w' 28 [(0,.slice a l.length cap),(1,.i i),(4,.i 0),(5,.i p)] [] []) (fun p=>l.length-p) ((i+1)) ⟨⟨by omega,by omega,fun j h1 h2=>by omega⟩,S.sn⟩ ?_;rintro k ac u hI;try dsimp only at hI
 obtain⟨hR,S⟩:=hI;refine wp_seq_k fun _ lX=>wp_seq_k (fun _ dG=>?_);rcases Nat.lt_or_ge k l.length with hk | hk
 ·have ek:decide ((k:Int)<(l.length:Int))=true:=decide_eq_true (by omega);obtain⟨b1,o1,c1,hv1,hb1,hr1⟩:=Vp.jy h (fun _=>rfl) i hi;simp only[Value.slice.injEq,true_and]at hv1;obtain⟨rfl,rfl⟩:=hv1;obtain⟨b2,o2,c2,hv2,hb2,hr2⟩:=Vp.jy h (fun _=>rfl) k hk;simp only[Value.slice.injEq,Option.some.injEq,Addr.mk.injEq,true_and,and_true]at hv2;obtain⟨⟨rfl,rfl⟩,rfl⟩:=hv2;obtain⟨x,hx⟩:∃z,l[i]=z:=⟨_,rfl⟩;rw[hx]at hr1;obtain⟨y,hy⟩:∃z,l[k]=z:=⟨_,rfl⟩;rw[hy]at hr2;have S:=S.view0 hb1 hr1;have S:=S.view0 hb2 hr2;refine akr S 17 [.re 11 (.bool ((k:Int)<(l.length:Int))) (.bool true),.idx k l.length,.mem 0 2,.idx i l.length,.mem 1 2] [] [(24,.bool (x.depth<y.depth))] trivial (hk:=⟨(congrArg Value.bool ek),hk,hi,trivial⟩) fun ac u E6 S=>akf (dG _ _ ?_);refine aki S (fun lD=>?_) (fun lD=>?_)
  ·refine wp_skip<|lX _ _<|wp_block<|Vp.region<|adr S 3 [.re 26 (.i (IntKind.i64.wrap ((k:Int)+1))) (.i (k+1:Nat))] [(5,.i (k+1:Nat))] (hk:=⟨aks (by omega),trivial⟩) fun S=>akf ?_;show ∃i',_∧_;exact⟨(k+1),⟨⟨by omega,by omega,fun j h1 h2=>by
    by_cases e:j=k
    ·subst e; rw[gB hi,gB hk,hx,hy]; have:=of_decide_eq_true lD; omega
    exact hR.2.2 j h1 (by omega)⟩,S.sn⟩,by show l.length-(k+1)<l.length-k; omega⟩
  refine wp_exit<|iM _ _<|akg fun _ dM=>adr S 2 [] [(4,.i k)] fun S=>akf<|dM _ _<|akj S Tryz.results68 ?_;have he:dR (keys l) i=k:=by
   rw[uZ (by simpa using hi)];exact Bo (by simpa using hi) hR.1 (by simpa using hR.2.1) hR.2.2 (fun hk=>by rw[gB hi,gB (by simpa using hk),hx,hy]; have:=of_decide_eq_false lD; omega)
  exact⟨by rw[he],S.E⟩
 have ek:decide ((k:Int)<(l.length:Int))=false:=decide_eq_false (by omega);refine akr S 17 [.re 11 (.bool ((k:Int)<(l.length:Int))) (.bool false),.dead 13 (.bool false),.dead 14 (.bool false),.dead 15 (.bool false),.dead 16 (.bool false),.dead 17 (.bool false),.dead 18 (.bool false),.dead 19 (.bool false),.dead 20 (.bool false),.dead 21 (.bool false),.dead 22 (.bool false),.dead 23 (.bool false)] [] [(24,.bool false)] trivial (hk:=⟨(congrArg Value.bool ek),trivial⟩) fun ac u E9 S=>akf<|dG _ _<|akz S<|wp_exit<|iM _ _<|akg fun _ fD=>adr S 2 [] [(4,.i k)] fun S=>akf<|fD _ _<|akj S Tryz.results68 ?_;have he:dR (keys l) i=k:=by
  rw[uZ (by simpa using hi)];exact Bo (by simpa using hi) hR.1 (by simpa using hR.2.1) hR.2.2 (fun hk2=>by simp at hk2; omega)
 exact⟨by rw[he],S.E⟩
theorem wQ{w:World}{v:Value}{l:List aj}(h:aN 47 aj.cells w v l){id:Int} :
  Calls Tryz.prog 69 #[v,.i id] w fun e w'=>e = .returned (.i (gu (keys l) id))∧Ext w w':=by
 obtain⟨a,cap,rfl⟩:=h.shape;have hmax:l.length≤9223372036854775807:=h.len;refine akk Tryz.func69 Tryz.ntmps69 fun ac S=>akg fun _ aP=>adr S 1 [] [(4,.i 0)] fun S=>akf<|aP _ _<|wp_seq_k fun _ fE=>akg fun _ iM=>adr S 1 [] [(5,.i 0)] fun S=>akf<|iM _ _<|wp_block ?_;refine Vp.loop (ι:=Nat) (fun p a' w'=>p≤l.length∧(∀(j:Nat) (hj:j<l.length),j<p→l[j].id≠id)∧Sx.St w a' w' 20 [(0,.slice a l.length cap),(1,.i id),(4,.i 0),(5,.i p)] [] []) (fun p=>l.length-p) (0) ⟨Nat.zero_le _,fun j hj h=>by omega,S.sn⟩ ?_;rintro k ac u hI;try dsimp only at hI
 obtain⟨hk,hR,S⟩:=hI;refine wp_seq_k fun _ lX=>akg fun _ dG=>adr S 4 [] [(9,.bool ((k:Int)<(l.length:Int)))] fun S=>akf (dG _ _ ?_);refine aki S (fun hc6=>?_) (fun hc6=>?_)
 ·refine wp_skip<|lX _ _<|wp_seq_k fun _ jT=>wp_block<|akg (fun _ dM=>?_);have uI:k<l.length:=by have:=of_decide_eq_true hc6; omega
  obtain⟨b9,o10,rfl,x15,Di,hb16,SB⟩:=Vp.gY h (fun _=>rfl) (k) uI;have S:=S.view0 hb16 SB;refine adr S 7 [.idx k l.length,.mem 0 0] [(18,.bool ((x15.id)==id))] (hk:=⟨uI,trivial⟩) fun S=>akf (dM _ _ ?_);refine aki S (fun hc17=>?_) (fun hc17=>?_)
  ·refine akg fun _ jm=>adr S 2 [] [(4,.i k)] fun S=>akf<|jm _ _<|akj S Tryz.results69 ?_;exact⟨by rw[Qb uI (by rw[Di]; simpa using hc17) hR],S.E⟩
  refine wp_skip<|jT _ _<|Vp.region<|adr S 3 [.re 11 (.i (IntKind.i64.wrap ((k:Int)+1))) (.i (k+1:Nat))] [(5,.i (k+1:Nat))] (hk:=⟨aks (by omega),trivial⟩) fun S=>akf ?_;show ∃i',_∧_;exact⟨(k+1),⟨by omega,(JX uI hR (by rw[Di]; simpa using hc17)),S.sn⟩,by show _-_<_-_; omega⟩
 refine wp_exit<|fE _ _<|akg fun _ jI=>adr S 1 [] [(4,.i (-1))] fun S=>akf<|jI _ _<|akj S Tryz.results69 ?_;have hk:=of_decide_eq_false hc6;exact⟨by rw[Hz (fun j hj=>hR j hj (by omega))],S.E⟩
theorem MW{w:World}{v:Value}{l:List aj}(h:aN 47 aj.cells w v l){i:Nat}(hi:i<l.length)(hd:∀(j:Nat) (hj:j<l.length),j<i→0≤l[j].depth∧l[j].depth<8){q:Int}(hz:q=(i:Int)) :
  Calls Tryz.prog 91 #[v,.i q] w fun e w'=>e = .returned (.bool (uj ((keys l).take i) l[i].key))∧Ext w w':=by
 subst hz;obtain⟨a,cap,rfl⟩:=h.shape;have hmax:l.length≤9223372036854775807:=h.len;refine akk Tryz.func91 Tryz.ntmps91 fun ac S=>akg fun _ aP=>adr S 1 [] [(4,.bool false)] fun S=>akf<|aP _ _<|wp_seq_k fun _ fE=>akg fun _ iM=>adr S 2 [] [(6,.bool (((i:Int))==0))] fun S=>akf (iM _ _ ?_);refine aki S (fun hc4=>?_) (fun hc4=>?_)
 ·refine akg (fun _ dG=>?_);obtain rfl:i=0:=by simpa using hc4
  have agU:0<l.length:=by omega
  obtain⟨b6,o7,rfl,x12,aiS,ach,hr9⟩:=Vp.gY h (fun _=>rfl) (0) agU;have S:=S.view0 ach hr9;refine adr S 7 [.idx 0 l.length,.mem 0 2] [(4,.bool ((x12.depth)==0))] (hk:=⟨agU,trivial⟩) fun S=>akf<|dG _ _<|akj S Tryz.results91 ?_;exact⟨by rw[aiS]; rfl,S.E⟩
 refine wp_skip<|fE _ _<|wp_seq_k fun _ fC=>wp_seq_k (fun _ fP=>?_);obtain⟨j,rfl⟩:∃j,i=j+1:=⟨i-1,by have:=hc4; simp at this; omega⟩;have YF:j<l.length:=by omega
 obtain⟨b17,o18,rfl,x23,afs,Sz,aiT⟩:=Vp.gY h (fun _=>rfl) (j) YF;have hd0:0≤x23.depth∧x23.depth<8:=afs▸hd j (by omega) (by omega);have S:=S.view0 Sz aiT;have aft:(j+1)<l.length:=by omega
 obtain⟨x31,hx29,Pq,aiU⟩:=Vp.Ye h (fun _=>rfl) ((j+1)) aft;have S:=S.view0 Pq aiU;refine akr S 22 [.re 15 (.i (IntKind.i64.wrap (((j+1:Nat):Int)-1))) (.i j),.idx j l.length,.mem 1 1,.idx (j+1) l.length,.mem 0 2,.re 28 (.i (IntKind.i64.wrap (((j+1:Nat):Int)-1))) (.i j),.idx j l.length,.mem 1 2,Sx.kw 32 (x23.depth+1)] [] [(34,.bool (((x23.kind)==1)&&((x31.depth)==(x23.depth+1))))] trivial (hk:=⟨(AL (by omega)),YF,aft,(AL (by omega)),YF,Sx.H9 (by omega),trivial⟩) fun ac u Nv S=>akf (fP _ _ ?_);refine aki S (fun lU=>?_) (fun lU=>?_)
 ·refine akg fun _ uq=>adr S 1 [] [(4,.bool true)] fun S=>akf<|uq _ _<|akj S Tryz.results91 ?_;exact⟨by rw[hx29,En YF afs,lU]; rfl,S.E⟩
 refine wp_skip<|fC _ _<|wp_seq_k fun _ oh=>akr S 12 [.idx (j+1) l.length,.mem 0 2,.re 42 (.i (IntKind.i64.wrap (((j+1:Nat):Int)-1))) (.i j),.idx j l.length,.mem 1 2] [] [(46,.bool (x31.depth≤x23.depth))] trivial (hk:=⟨aft,(AL (by omega)),YF,trivial⟩) fun ac u QJ S=>adr S 1 [] [(4,.bool (x31.depth≤x23.depth))] fun S=>akf<|oh _ _<|akj S Tryz.results91 ?_;exact⟨by rw[hx29,En YF afs,lU,Bool.false_or],S.E⟩
theorem QB{w:World}{v:Value}{l:List aj}(h:iq K w v l){i:Nat}(hi:i<l.length)(hd:∀(j:Nat) (hj:j<l.length),j<i→0≤l[j].depth∧l[j].depth<8){q:Int}(hz:q=(i:Int)) :
  Calls Tryz.prog 55 #[v,.i q] w fun e w'=>e = .returned (.i (fH ((keys l).take i) l[i].key))∧Ext w w':=by
 subst hz;obtain⟨a,cap,rfl⟩:=h.1.shape;have hmax:l.length≤9223372036854775807:=h.1.len;have hlc:=Sx.l7 h.1;refine akk Tryz.func55 Tryz.ntmps55 fun ac S=>akg fun _ aP=>adr S 1 [] [(4,.i 0)] fun S=>akf<|aP _ _<|wp_seq_k fun _ fE=>akg (fun _ iM=>?_);have lt9:i<l.length:=hi;obtain⟨b4,o5,rfl,x10,Xz,KW,hr7⟩:=Vp.gY h.1 (fun _=>rfl) (i) lt9;have S:=S.view0 KW hr7;refine adr S 4 [.idx i l.length,.mem 0 0] [(9,x10.v)] (hk:=⟨lt9,trivial⟩) fun S=>akn S 10 (abx ((h.2 _ (Xz▸List.getElem_mem lt9)).below S.E)) fun ac u EK S=>adr S 1 [] [(5,.i x10.checkN)] fun S=>akf<|iM _ _<|akg fun _ gJ=>adr S 2 [] [(12,.bool ((x10.checkN) != 0))] fun S=>akf (gJ _ _ ?_);refine aki S (fun lW=>?_) (fun lW=>?_)
 ·refine akg fun _ fP=>adr S 2 [] [(4,.i x10.checkN)] fun S=>akf<|fP _ _<|akj S Tryz.results55 ?_;exact⟨by rw[Xz,H7 (by simpa using lW)],S.E⟩
 refine wp_skip<|fE _ _<|wp_seq_k fun _ jH=>wp_seq_k fun _ gI=>akr S 10 [.slc 0 i cap cap,.idx i l.length,.mem 0 0] [(_,_,true,.i (gu (keys (l.take i)) x10.id))] [(23,.bool (0≤(gu (keys (l.take i)) x10.id)))] ⟨fun u hC g=>wQ (id:=x10.id) ((Kv h.1 (Nat.le_of_lt hi)).below (Ext.trans' S.E hC)),trivial⟩ (hk:=⟨⟨Nat.zero_le _,by omega,Nat.le_refl _⟩,lt9,trivial⟩) fun ac u DL S=>akf (gI _ _ ?_);refine aki S (fun hc19=>?_) (fun hc19=>?_)
 ·refine akg fun _ iT=>adr S 1 [] [(4,.i 7)] fun S=>akf<|iT _ _<|Vp.rt ?_;have hc0:x10.checkN=0:=by simpa using lW
  have hfa:=IC (l:=l.take i) (id:=x10.id);rw[show keys (l.take i)=(keys l).take i from List.map_take ..]at hfa;have hq1:=hc19;rw[show keys (l.take i)=(keys l).take i from List.map_take ..,hfa]at hq1;refine akm S Tryz.results55 ?_;exact⟨by rw[Xz,JY hc0 hq1],S.E⟩
 refine wp_skip<|jH _ _<|wp_seq_k fun _ jJ=>akg fun _ jv=>adr S 2 [] [(24,.slice (some ⟨b4,o5,none⟩) l.length cap),(25,.i i)] fun S=>akn S 26 (oD (MW (h.1.below S.E) hi hd rfl) (show Value.bool (uj ((keys l).take i) l[i].key) = .bool (uj ((keys l).take i) x10.key) by rw[Xz])) fun ac u Jt S=>adr S 1 [] [(27,.bool (!(uj ((keys l).take i) x10.key)))] fun S=>akf (jv _ _ ?_);refine aki S (fun hc24=>?_) (fun hc24=>?_)
 ·refine akg fun _ nZ=>adr S 1 [] [(4,.i 17)] fun S=>akf<|nZ _ _<|Vp.rt ?_;have hc0:x10.checkN=0:=by simpa using lW
  have hfa:=IC (l:=l.take i) (id:=x10.id);rw[show keys (l.take i)=(keys l).take i from List.map_take ..]at hfa;have hq1:=hc19;rw[show keys (l.take i)=(keys l).take i from List.map_take ..,hfa]at hq1;have hst:=Hw (pre:=(keys l).take i) (x:=x10.key) (by rw[oG]; exact hc0);refine akm S Tryz.results55 ?_;exact⟨by rw[Xz,Ec hc0 hq1 (by have:=hc24; rw[hst]at this; simp at this; exact this)],S.E⟩
 refine wp_skip<|jJ _ _<|akg fun _ kN=>adr S 1 [] [(4,.i 0)] fun S=>akf<|kN _ _<|Vp.rt ?_;have hc0:x10.checkN=0:=by simpa using lW
 have hfa:=IC (l:=l.take i) (id:=x10.id);rw[show keys (l.take i)=(keys l).take i from List.map_take ..]at hfa;have hq1:=hc19;rw[show keys (l.take i)=(keys l).take i from List.map_take ..,hfa]at hq1;have hst:=Hw (pre:=(keys l).take i) (x:=x10.key) (by rw[oG]; exact hc0);refine akm S Tryz.results55 ?_;exact⟨by rw[Xz,H8 hc0 hq1 (by have:=hc24; rw[hst]at this; simp at this; exact this)],S.E⟩
theorem yA{w:World}{s:aF}(h:bP K w s) :
  Calls Tryz.prog 21 #[s.v] w fun e w'=>e = .returned (.tuple #[.i s.key.chk.1,.i s.key.chk.2])∧Ext w w':=by
 have hmax:s.ns.length≤9223372036854775807:=h.2.2.1.len;refine akk Tryz.func21 Tryz.ntmps21 fun ac S=>akg fun _ aP=>akh S 1 s.cells fun ac u b2 E3 hb4 S=>adr S 2 [] [(2,.i 0),(3,.i 0)] fun S=>akf<|aP _ _<|wp_seq_k fun _ dG=>akg fun _ jl=>adr S 18 [.mem 0 0,.mem 0 0,.mem 0 1,.mem 0 1] [(23,.bool ((((decide (s.w<1))||(decide (256<s.w)))||(decide (s.h<1)))||(decide (256<s.h))))] fun S=>akf (jl _ _ ?_);refine aki S (fun lD=>?_) (fun lD=>?_)
 ·refine akg fun _ dM=>adr S 2 [] [(2,.i 6),(3,.i 0)] fun S=>akf<|dM _ _<|Sx.rt2 S Tryz.results21 ?_;exact⟨by rw[Qc (s:=s.key) lD],S.E⟩
 refine wp_skip<|dG _ _<|wp_seq_k fun _ gX=>akg fun _ fD=>adr S 4 [.mem 0 6] [(27,.bool (64<(s.ns.length:Int)))] fun S=>akf (fD _ _ ?_);refine aki S (fun fA=>?_) (fun fA=>?_)
 ·refine akg fun _ bV=>adr S 2 [] [(2,.i 5),(3,.i 64)] fun S=>akf<|bV _ _<|Vp.rt ?_;have hq:=nS (s:=s.key) lD;rw[show s.key.ns=keys s.ns from rfl,List.length_map]at hq;refine Sx.rD S Tryz.results21 ?_;exact⟨by rw[hq,if_pos (by have:=of_decide_eq_true fA; omega)],S.E⟩
 refine wp_skip<|gX _ _<|wp_seq_k fun _ gJ=>akg fun _ fC=>adr S 1 [] [(4,.i 0)] fun S=>akf<|fC _ _<|wp_block ?_;refine Vp.loop (ι:=Nat) (fun p a' w'=>p≤s.ns.length∧(YE s.ns p)∧Sx.St w a' w' 43 [(0,s.v),(1,.pointer (some ⟨b2,0,none⟩)),(2,.i 0),(3,.i 0),(4,.i p)] [(b2,s.cells)] []) (fun p=>s.ns.length-p) (0) ⟨Nat.zero_le _,⟨vJ.start _,fun j hj h=>by omega⟩,S.sn⟩ ?_;rintro k ac u hI;try dsimp only at hI
 obtain⟨hk,hR,S⟩:=hI;refine wp_seq_k fun _ fP=>akg fun _ jH=>adr S 5 [.mem 0 6] [(32,.bool ((k:Int)<(s.ns.length:Int)))] fun S=>akf (jH _ _ ?_);refine aki S (fun hc17=>?_) (fun hc17=>?_)
 ·refine wp_skip<|fP _ _<|wp_seq_k fun _ jm=>wp_block<|akg fun _ jI=>adr S 3 [.mem 0 6] [(36,s.s),(37,.i k)] (fun S=>?_);have hk1:k<s.ns.length:=by have:=of_decide_eq_true hc17; omega
  obtain⟨x,hx⟩:∃z,s.ns[k]=z:=⟨_,rfl⟩;refine akn S 38 (oD (QB (h.2.2.below S.E) hk1 hR.dep rfl) (show Value.i (fH ((keys s.ns).take k) s.ns[k].key) = .i (fH ((keys s.ns).take k) x.key) by rw[hx])) fun ac u Ez S=>adr S 1 [] [(5,.i (fH ((keys s.ns).take k) x.key))] fun S=>akf<|jI _ _<|akg fun _ jJ=>adr S 2 [] [(40,.bool (((fH ((keys s.ns).take k) x.key)) != 0))] fun S=>akf (jJ _ _ ?_);refine aki S (fun hc22=>?_) (fun hc22=>?_)
  ·refine akg fun _ jU=>adr S 4 [] [(2,.i (fH ((keys s.ns).take k) x.key)),(3,.i k)] fun S=>akf<|jU _ _<|Vp.rt ?_;have hq:=nS (s:=s.key) lD;rw[show s.key.ns=keys s.ns from rfl,List.length_map]at hq;refine Sx.rD S Tryz.results21 ?_;rw[if_neg (by have:=of_decide_eq_false fA; omega)]at hq;exact⟨by rw[hq,hR.at'.bad hk1 hx rfl (by simpa using hc22)],S.E⟩
  refine wp_skip<|jm _ _<|Vp.region<|adr S 3 [.re 34 (.i (IntKind.i64.wrap ((k:Int)+1))) (.i (k+1:Nat))] [(4,.i (k+1:Nat))] (hk:=⟨aks (by omega),trivial⟩) fun S=>akf ?_;show ∃i',_∧_;exact⟨(k+1),⟨by omega,hR.next hk1 hx (by simpa using hc22),S.sn⟩,by show _-_<_-_; omega⟩
 refine wp_exit<|gJ _ _<|akg fun _ jB=>adr S 2 [] [(2,.i 0),(3,.i 0)] fun S=>akf<|jB _ _<|Vp.rt ?_;have hq:=nS (s:=s.key) lD;rw[show s.key.ns=keys s.ns from rfl,List.length_map]at hq;refine Sx.rD S Tryz.results21 ?_;rw[if_neg (by have:=of_decide_eq_false fA; omega)]at hq;exact⟨by rw[hq,hR.at'.done (by have:=of_decide_eq_false hc17; omega)],S.E⟩
theorem Ei{w:World}{s:aF}(h:bP K w s) :
  Calls Tryz.prog 51 #[s.v] w fun e w'=>e = .returned (.bool s.key.valid)∧Ext w w':=by
 skip;refine akk Tryz.func51 Tryz.ntmps51 fun ac S=>akg fun _ aP=>akh S 1 s.cells fun ac u b2 E3 hb4 S=>adr S 1 [] [(2,.bool false)] fun S=>akf<|aP _ _<|akg fun _ dG=>adr S 1 [.mem 0 0] [(6,s.v)] fun S=>akn S 7 (yA (h.below S.E)) fun ac u E6 S=>adr S 5 [] [(3,.i s.key.chk.1)] fun S=>akf<|dG _ _<|akg fun _ jT=>adr S 3 [] [(2,.bool ((s.key.chk.1)==0))] fun S=>akf<|jT _ _<|akj S Tryz.results51 ?_;exact⟨rfl,S.E⟩
theorem Ej{w:World}{s t:aF}(h:bP K w s)(h':bP K w t) :
  Calls Tryz.prog 19 #[s.v,t.v] w fun e w'=>e = .returned (.bool (s.key=t.key))∧Ext w w':=by
 have hmax:s.ns.length≤9223372036854775807:=h.2.2.1.len;refine akk Tryz.func19 Tryz.ntmps19 (fun ac S=>?_);obtain⟨a,cap,es⟩:∃a c,s.s = .slice a s.ns.length c:=⟨_,_,rfl⟩;have hr:=h.2.2.1;rw[es]at hr;obtain⟨d,cap',et⟩:∃a c,t.s = .slice a t.ns.length c:=⟨_,_,rfl⟩;have hr':=h'.2.2.1;rw[et]at hr';refine akg fun _ aP=>akh S 2 s.cells fun ac u b2 E3 hb4 S=>akh S 3 t.cells fun ac u b5 E6 hb7 S=>adr S 1 [] [(4,.bool false)] fun S=>akf<|aP _ _<|wp_seq_k fun _ dM=>akg fun _ gX=>adr S 28 [.mem 1 0,.mem 0 0,.mem 1 1,.mem 0 1,.mem 1 2,.mem 0 2,.cmp .neq 23 (.tmp 20) (.tmp 22) (.agg #[.int .u8 (s.bg.r.toNat:Int),.int .u8 (s.bg.g.toNat:Int),.int .u8 (s.bg.b.toNat:Int),.int .u8 (s.bg.a.toNat:Int)]) (.agg #[.int .u8 (t.bg.r.toNat:Int),.int .u8 (t.bg.g.toNat:Int),.int .u8 (t.bg.b.toNat:Int),.int .u8 (t.bg.a.toNat:Int)]) (.bool (!decide (s.bg=t.bg))),.mem 1 6,.re 27 s.s (.slice a s.ns.length cap),.mem 0 6,.re 30 t.s (.slice d t.ns.length cap')] [(33,.bool (((((s.w) != t.w)||((s.h) != t.h))||(!decide (s.bg=t.bg)))||(((s.ns.length:Int)) != (t.ns.length:Int))))] (hk:=⟨(aky (fun _=>afc s.bg t.bg _) (by kernel_rfl)),es,et,trivial⟩) fun S=>akf (gX _ _ ?_);refine aki S (fun bW=>?_) (fun bW=>?_)
 ·refine akg fun _ dn=>adr S 1 [] [(4,.bool false)] fun S=>akf<|dn _ _<|akj S Tryz.results19 ?_;exact⟨aB (agD bW),S.E⟩
 refine wp_skip<|dM _ _<|wp_seq_k fun _ bV=>akg fun _ gJ=>adr S 1 [] [(5,.i 0)] fun S=>akf<|gJ _ _<|wp_block ?_;refine Vp.loop (ι:=Nat) (fun p a' w'=>p≤s.ns.length∧((keys s.ns).take p=(keys t.ns).take p)∧Sx.St w a' w' 53 [(0,s.v),(1,t.v),(2,.pointer (some ⟨b2,0,none⟩)),(3,.pointer (some ⟨b5,0,none⟩)),(4,.bool false),(5,.i p)] [(b5,t.cells),(b2,s.cells)] []) (fun p=>s.ns.length-p) (0) ⟨Nat.zero_le _,rfl,S.sn⟩ ?_;rintro k ac u hI;try dsimp only at hI
 obtain⟨hk,hR,S⟩:=hI;refine wp_seq_k fun _ fC=>akg fun _ fP=>adr S 5 [.mem 1 6,.re 36 s.s (.slice a s.ns.length cap)] [(38,.bool ((k:Int)<(s.ns.length:Int)))] (hk:=⟨es,trivial⟩) fun S=>akf (fP _ _ ?_);refine aki S (fun hc16=>?_) (fun hc16=>?_)
 ·refine wp_skip<|fC _ _<|wp_seq_k fun _ gI=>wp_block<|wp_seq_k (fun _ jm=>?_);have uG:k<s.ns.length:=by have:=of_decide_eq_true hc16; omega
  obtain⟨b20,o21,rfl,KZ,hx24,FM,RP⟩:=Vp.gY hr (fun _=>rfl) (k) uG;have S:=S.view0 FM RP;have zX:k<t.ns.length:=by have:=aa5 bW; have:=of_decide_eq_true hc16; omega
  obtain⟨b28,o29,rfl,y34,hx32,Zz,ZA⟩:=Vp.gY hr' (fun _=>rfl) (k) zX;have S:=S.view0 Zz ZA;refine akr S 12 [.mem 1 6,.re 42 s.s (.slice (some ⟨b20,o21,none⟩) s.ns.length cap),.idx k s.ns.length,.mem 3 0,.mem 0 6,.re 47 t.s (.slice (some ⟨b28,o29,none⟩) t.ns.length cap'),.idx k t.ns.length,.mem 2 0] [(_,_,true,.bool (KZ.key=y34.key))] [(52,.bool (!(decide (KZ.key=y34.key))))] ⟨fun u hC g=>Wj ((h.2.2.2 _ (hx24▸List.getElem_mem uG)).below (Ext.trans' S.E hC)) ((h'.2.2.2 _ (hx32▸List.getElem_mem zX)).below (Ext.trans' S.E hC)),trivial⟩ (hk:=⟨es,uG,et,zX,trivial⟩) fun ac u RH S=>akf (jm _ _ ?_);refine aki S (fun zY=>?_) (fun zY=>?_)
  ·refine akg fun _ oM=>adr S 1 [] [(4,.bool false)] fun S=>akf<|oM _ _<|akj S Tryz.results19 ?_;exact⟨aB (adJ bW (agC uG zX hx24 hx32 zY)),S.E⟩
  refine wp_skip<|gI _ _<|Vp.region<|adr S 3 [.re 40 (.i (IntKind.i64.wrap ((k:Int)+1))) (.i (k+1:Nat))] [(5,.i (k+1:Nat))] (hk:=⟨aks (by omega),trivial⟩) fun S=>akf ?_;show ∃i',_∧_;exact⟨(k+1),⟨by omega,(acN uG zX hR hx24 hx32 zY),S.sn⟩,by show _-_<_-_; omega⟩
 refine wp_exit<|bV _ _<|akg fun _ jC=>adr S 1 [] [(4,.bool true)] fun S=>akf<|jC _ _<|akj S Tryz.results19 ?_;exact⟨aB (adJ bW (afd (by have:=of_decide_eq_false hc16; omega) (aa5 bW) hR)),S.E⟩
end Go.Proofs.YtfmkkemfhjkajaaGreatDoor
