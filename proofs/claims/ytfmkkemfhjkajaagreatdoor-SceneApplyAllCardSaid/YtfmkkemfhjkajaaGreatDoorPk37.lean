/- Package scene: what it asks of scenes. Package scene: -/
import Derived.Test.YtfmkkemfhjkajaaGreatDoorPk32
import Derived.Test.YtfmkkemfhjkajaaGreatDoorHoist2
import Derived.Test.YtfmkkemfhjkajaaGreatDoorMap
import Derived.Test.YtfmkkemfhjkajaaGreatDoorCheck
set_option linter.unusedVariables false
namespace Go.Proofs.YtfmkkemfhjkajaaGreatDoor
section
set_option maxHeartbeats 3200000
set_option maxRecDepth 100000
open Go.RowKit
variable{α:Type}{K:Nat}
abbrev keys (l:List aj):List aI:=l.map aj.key
theorem gB{l:List aj}{i:Nat}(h:i<l.length):iy (keys l) i=l[i].depth:=by
 rw[qh (by simpa using h)]; simp[keys,aj.key]
theorem Uf{z:Int}(h:0≤z):∃i:Nat,z=(i:Int):=⟨z.toNat,by omega⟩
theorem Qb{l:List aj}{id:Int}{k:Nat}(hk:k<l.length)(h:l[k].id=id)(hR:∀(j:Nat) (hj:j<l.length),j<k→l[j].id≠id):gu (keys l) id=(k:Int):=by
 have:fU (keys l) id=some k:=by
  unfold fU;rw[List.findIdx?_eq_some_iff_getElem];refine⟨by simpa using hk,by simpa[keys,aj.key]using h,fun j hj=>?_⟩;have:=hR j (by omega) hj;simpa[keys,aj.key]using this
 unfold gu; rw[this]
theorem Hz{l:List aj}{id:Int}(hR:∀(j:Nat) (hj:j<l.length),l[j].id≠id):gu (keys l) id = -1:=by
 have:fU (keys l) id=none:=by
  unfold fU;rw[List.findIdx?_eq_none_iff];intro κ hκ;obtain⟨n,hn,rfl⟩:=List.mem_map.1 hκ;obtain⟨j,hj,rfl⟩:=List.getElem_of_mem hn;simpa[aj.key]using hR j hj
 unfold gu; rw[this]
theorem JX{l:List aj}{id:Int}{k:Nat}(hk:k<l.length)(hR:∀(j:Nat) (hj:j<l.length),j<k→l[j].id≠id)(h:l[k].id≠id):∀(j:Nat) (hj:j<l.length),j<k+1→l[j].id≠id:=fun j hj h1=>by
 by_cases e:j=k
 ·subst e; exact h
 exact hR j hj (by omega)
theorem ae8{l:List aj}{i j:Nat}(hj:j<l.length)(hi:i<l.length)(h:¬l[j].depth=l[i].depth-1):nH (iy (keys l)) (iy (keys l) i-1) (j+1)=nH (iy (keys l)) (iy (keys l) i-1) j:=by
 conv=>lhs; unfold nH
 rw[if_neg (by rw[gB hj,gB hi]; exact h)]
theorem acM{l:List aj}{i j:Nat}(hj:j<l.length)(hi:i<l.length)(h:l[j].depth=l[i].depth-1):nH (iy (keys l)) (iy (keys l) i-1) (j+1)=(j:Int):=by
 unfold nH;rw[if_pos (by rw[gB hj,gB hi]; exact h)]
theorem Qc{s:aO}(h:((((decide (s.w<1))||(decide (256<s.w)))||(decide (s.h<1)))||(decide (256<s.h)))=true):s.chk=(6,0):=by
 unfold aO.chk;rw[if_pos (by simpa[or_assoc]using h)]
theorem nS{s:aO}(h:((((decide (s.w<1))||(decide (256<s.w)))||(decide (s.h<1)))||(decide (256<s.h)))=false):s.chk=if 64<s.ns.length then (5,64)else iZ [] s.ns:=by
 unfold aO.chk;rw[if_neg (by simpa[or_assoc,and_assoc]using h)]
theorem H6{l:List aI}{k:Nat}(hk:k<l.length):iZ (l.take k) (l.drop k)=if fH (l.take k) l[k]=0 then iZ (l.take (k+1)) (l.drop (k+1))else (fH (l.take k) l[k],(k:Int)):=by
 rw[List.drop_eq_getElem_cons hk,List.take_succ_eq_append_getElem hk];conv=>lhs; unfold iZ
 rw[List.length_take,Nat.min_eq_left (by omega)]
theorem Dw{l:List aj}{k:Nat}(hk:k<l.length){x:aj}(hx:l[k]=x):(keys l)[k]'(by simpa using hk)=x.key:=by simp[keys,hx]
theorem Mc(l:List aj)(k:Nat)(id:Int):((l.take k).map aj.id).any (· == id)=((keys l).take k).any fun κ=>κ.id==id:=by
 rw[←List.map_take,List.any_map,List.any_map]; rfl
structure vJ (l:List aj) (k:Nat) (m:Int):Prop where
 all:iZ [] (keys l)=iZ ((keys l).take k) ((keys l).drop k)
 room:m=oC ((keys l).take k)
theorem vJ.start(l:List aj):vJ l 0 0:=⟨by simp,rfl⟩
theorem vJ.bad{l:List aj}{k:Nat}{m n:Int}{x:aj}(h:vJ l k m)(hk:k<l.length)(hx:l[k]=x)(hw:fH ((keys l).take k) x.key=n)(hn:n≠0):iZ [] (keys l)=(n,(k:Int)):=by
 rw[h.all,H6 (by simpa using hk),Dw hk hx,hw,if_neg hn]
theorem vJ.next{l:List aj}{k:Nat}{m m':Int}{x:aj}(h:vJ l k m)(hk:k<l.length)(hx:l[k]=x)(hw:fH ((keys l).take k) x.key=0)(hm:m'=if x.kind=1 then x.depth+1 else x.depth):vJ l (k+1) m':=by
 have hk':k<(keys l).length:=by simpa using hk
 refine⟨?_,?_⟩
 ·rw[h.all,H6 hk',Dw hk hx,hw,if_pos rfl]
 rw[List.take_succ_eq_append_getElem hk',Hu,Dw hk hx,hm]; rfl
theorem vJ.done{l:List aj}{k:Nat}{m:Int}(h:vJ l k m)(hk:l.length≤k):iZ [] (keys l)=(0,0):=by
 rw[h.all,List.drop_eq_nil_of_le (by simpa using hk)]; rfl
theorem H7{pre:List aI}{x:aj}(h:x.checkN≠0):fH pre x.key=x.checkN:=by rw[←oG]at h ⊢; exact Ht h
theorem JY{pre:List aI}{x:aj}(h:x.checkN=0)(h2:pre.any (fun κ=>κ.id==x.id)=true):fH pre x.key=7:=by
 unfold fH;rw[oG,h,if_neg (by simp),if_pos (show(pre.any fun κ=>κ.id==x.key.id)=true from h2)]
theorem Ec{pre:List aI}{x:aj}(h:x.checkN=0)(h2:pre.any (fun κ=>κ.id==x.id)=false)(h3:oC pre<x.depth):fH pre x.key=17:=by
 unfold fH;rw[oG,h,if_neg (by simp),if_neg (by rw[show x.key.id=x.id from rfl,h2]; simp),if_neg (by show ¬x.depth≤_; omega)]
theorem H8{pre:List aI}{x:aj}(h:x.checkN=0)(h2:pre.any (fun κ=>κ.id==x.id)=false)(h3:x.depth≤oC pre):fH pre x.key=0:=by
 unfold fH;rw[oG,h,if_neg (by simp),if_neg (by rw[show x.key.id=x.id from rfl,h2]; simp),if_pos (by exact h3)]
theorem Yc(w:World):(zeroValue 4).run Tryz.prog w = .ok (.bool false) w:=Sx.pW (by kernel_rfl)
theorem Dx{w:World}{v:Value}{l:List aj}(h:aN 47 aj.cells w v l){i:Nat}(hi:i<l.length){z:Int}(hz:z=(i:Int)){r:Nat}(hr:r=dR (keys l) i) :
  Calls Tryz.prog 58 #[v,.i z] w fun e w'=>e = .returned (.i r)∧Ext w w':=by
 subst hz hr;obtain⟨a,cap,rfl⟩:=h.shape;have hmax:l.length≤9223372036854775807:=h.len;refine akk Tryz.func58 Tryz.ntmps58 fun ac S=>akg fun _ aP=>adr S 1 [] [(4,.i 0)] fun S=>akf<|aP _ _<|akg fun _ fE=>adr S 3 [.re 7 (.i (IntKind.i64.wrap ((i:Int)+1))) (.i (i+1:Nat))] [(5,.i (i+1:Nat))] (hk:=⟨aks (by omega),trivial⟩) fun S=>akf<|fE _ _<|wp_seq_k fun _ iM=>wp_block ?_;refine Vp.loop (ι:=Nat) (fun p a' w'=>(i<p∧p≤l.length∧∀j,i<j→j<p→iy (keys l) i<iy (keys l) j)∧Sx.St w a' w' 28 [(0,.slice a l.length cap),(1,.i i),(4,.i 0),(5,.i p)] [] []) (fun p=>l.length-p) ((i+1)) ⟨⟨by omega,by omega,fun j h1 h2=>by omega⟩,S.sn⟩ ?_;rintro k ac u hI;try dsimp only at hI
 obtain⟨hR,S⟩:=hI;refine wp_seq_k fun _ lX=>wp_seq_k (fun _ dG=>?_);rcases Nat.lt_or_ge k l.length with hk | hk
 ·have ek:decide ((k:Int)<(l.length:Int))=true:=decide_eq_true (by omega);obtain⟨b1,o1,c1,hv1,hb1,hr1⟩:=Vp.jy h (fun _=>rfl) i hi;simp only[Value.slice.injEq,true_and]at hv1;obtain⟨rfl,rfl⟩:=hv1;obtain⟨b2,o2,c2,hv2,hb2,hr2⟩:=Vp.jy h (fun _=>rfl) k hk;simp only[Value.slice.injEq,Option.some.injEq,Addr.mk.injEq,true_and,and_true]at hv2;obtain⟨⟨rfl,rfl⟩,rfl⟩:=hv2;obtain⟨x,hx⟩:∃z,l[i]=z:=⟨_,rfl⟩;rw[hx]at hr1;obtain⟨y,hy⟩:∃z,l[k]=z:=⟨_,rfl⟩;rw[hy]at hr2;have S:=S.view0 hb1 hr1;have S:=S.view0 hb2 hr2;refine akr S 17 [.re 11 (.bool ((k:Int)<(l.length:Int))) (.bool true),.idx k l.length,.mem 0 2,.idx i l.length,.mem 1 2] [] [(24,.bool (x.depth<y.depth))] trivial (hk:=⟨(congrArg Value.bool ek),hk,hi,trivial⟩) fun ac u E6 S=>akf (dG _ _ ?_);refine aki S (fun lD=>?_) (fun lD=>?_)
  ·refine wp_skip<|lX _ _<|wp_block<|Vp.region<|adr S 3 [.re 26 (.i (IntKind.i64.wrap ((k:Int)+1))) (.i (k+1:Nat))] [(5,.i (k+1:Nat))] (hk:=⟨aks (by omega),trivial⟩) fun S=>akf ?_;show ∃i',_∧_;exact⟨(k+1),⟨⟨by omega,by omega,fun j h1 h2=>by
    by_cases e:j=k
    ·subst e; rw[gB hi,gB hk,hx,hy]; have:=of_decide_eq_true lD; omega
    exact hR.2.2 j h1 (by omega)⟩,S.sn⟩,by show l.length-(k+1)<l.length-k; omega⟩
  refine wp_exit<|iM _ _<|akg fun _ dM=>adr S 2 [] [(4,.i k)] fun S=>akf<|dM _ _<|akj S Tryz.results58 ?_;have he:dR (keys l) i=k:=by
   rw[uZ (by simpa using hi)];exact Bo (by simpa using hi) hR.1 (by simpa using hR.2.1) hR.2.2 (fun hk=>by rw[gB hi,gB (by simpa using hk),hx,hy]; have:=of_decide_eq_false lD; omega)
  exact⟨by rw[he],S.E⟩
 have ek:decide ((k:Int)<(l.length:Int))=false:=decide_eq_false (by omega);refine akr S 17 [.re 11 (.bool ((k:Int)<(l.length:Int))) (.bool false),.dead 13 (.bool false),.dead 14 (.bool false),.dead 15 (.bool false),.dead 16 (.bool false),.dead 17 (.bool false),.dead 18 (.bool false),.dead 19 (.bool false),.dead 20 (.bool false),.dead 21 (.bool false),.dead 22 (.bool false),.dead 23 (.bool false)] [] [(24,.bool false)] trivial (hk:=⟨(congrArg Value.bool ek),trivial⟩) fun ac u E9 S=>akf<|dG _ _<|akz S<|wp_exit<|iM _ _<|akg fun _ fD=>adr S 2 [] [(4,.i k)] fun S=>akf<|fD _ _<|akj S Tryz.results58 ?_;have he:dR (keys l) i=k:=by
  rw[uZ (by simpa using hi)];exact Bo (by simpa using hi) hR.1 (by simpa using hR.2.1) hR.2.2 (fun hk2=>by simp at hk2; omega)
 exact⟨by rw[he],S.E⟩
theorem Au{w:World}{v:Value}{l:List aj}(h:aN 47 aj.cells w v l){id:Int} :
  Calls Tryz.prog 59 #[v,.i id] w fun e w'=>e = .returned (.i (gu (keys l) id))∧Ext w w':=by
 obtain⟨a,cap,rfl⟩:=h.shape;have hmax:l.length≤9223372036854775807:=h.len;refine akk Tryz.func59 Tryz.ntmps59 fun ac S=>akg fun _ aP=>adr S 1 [] [(4,.i 0)] fun S=>akf<|aP _ _<|wp_seq_k fun _ fE=>akg fun _ iM=>adr S 3 [] [(7,.slice a l.length cap),(8,.i l.length),(9,.i 0)] fun S=>akf<|iM _ _<|wp_block ?_;refine Vp.loop (ι:=Nat) (fun p a' w'=>p≤l.length∧(∀(j:Nat) (hj:j<l.length),j<p→l[j].id≠id)∧Sx.St w a' w' 20 [(0,.slice a l.length cap),(1,.i id),(4,.i 0),(7,.slice a l.length cap),(8,.i l.length),(9,.i p)] [] []) (fun p=>l.length-p) (0) ⟨Nat.zero_le _,fun j hj h=>by omega,S.sn⟩ ?_;rintro k ac u hI;try dsimp only at hI
 obtain⟨hk,hR,S⟩:=hI;refine akg fun _ lX=>adr S 1 [] [(10,.bool ((k:Int)<(l.length:Int)))] fun S=>akf<|lX _ _<|wp_seq_k (fun _ dG=>?_);refine aki S (fun hc6=>?_) (fun hc6=>?_)
 ·refine wp_skip<|dG _ _<|wp_seq_k fun _ jT=>wp_block<|akg (fun _ dM=>?_);have uI:k<l.length:=by have:=of_decide_eq_true hc6; omega
  obtain⟨b9,o10,rfl,x15,Di,hb16,SB⟩:=Vp.gY h (fun _=>rfl) (k) uI;have S:=S.view0 hb16 SB;refine adr S 3 [.idx k l.length,.mem 0 0] [(11,.i k),(13,x15.v)] (hk:=⟨uI,trivial⟩) fun S=>akh S 6 (Sx.L [.i 0,.i 0,.i 0]++Sx.za++Sx.L [.slice none 0 0,.i 0,.int .u8 0,.i 0,.bool false,.bool false,.slice none 0 0,.i 0,.slice none 0 0,.i 0,.i 0,.i 0,.i 0,.slice none 0 0,.i 0,.slice none 0 0,.i 0,.i 0,.slice none 0 0,.i 0]) fun ac u b17 DL ae9 S=>adr S 1 [] [(5,.i k)] fun S=>akl S 0 (off:=0) (cs:=x15.cells) rfl fun u C20 S=>akf<|dM _ _<|akg fun _ jJ=>adr S 4 [.mem 0 0] [(17,.bool ((x15.id)==id))] fun S=>akf (jJ _ _ ?_);refine aki S (fun hc22=>?_) (fun hc22=>?_)
  ·refine akg fun _ jU=>adr S 2 [] [(4,.i k)] fun S=>akf<|jU _ _<|akj S Tryz.results59 ?_;exact⟨by rw[Qb uI (by rw[Di]; simpa using hc22) hR],S.E⟩
  refine wp_skip<|jT _ _<|Vp.region<|adr S 2 [.re 19 (.i (IntKind.i64.wrap ((k:Int)+1))) (.i (k+1:Nat))] [(9,.i (k+1:Nat))] (hk:=⟨aks (by omega),trivial⟩) fun S=>akf ?_;show ∃i',_∧_;exact⟨(k+1),⟨by omega,(JX uI hR (by rw[Di]; simpa using hc22)),(S.sub [(0,.slice (some ⟨b9,o10,none⟩) l.length cap),(1,.i id),(4,.i 0),(7,.slice (some ⟨b9,o10,none⟩) l.length cap),(8,.i l.length),(9,.i (k+1:Nat))]).pX.oq 1⟩,by show _-_<_-_; omega⟩
 refine wp_exit<|fE _ _<|akg fun _ jB=>adr S 1 [] [(4,.i (-1))] fun S=>akf<|jB _ _<|akj S Tryz.results59 ?_;have hk:=of_decide_eq_false hc6;exact⟨by rw[Hz (fun j hj=>hR j hj (by omega))],S.E⟩
theorem Md{w:World}{v:Value}{l:List aj}(h:aN 47 aj.cells w v l){i:Nat}(hi:i<l.length)(hd:0≤l[i].depth∧l[i].depth<8){q:Int}(hz:q=(i:Int)) :
  Calls Tryz.prog 70 #[v,.i q] w fun e w'=>e = .returned (.i (tC (iy (keys l)) i))∧Ext w w':=by
 subst hz;obtain⟨a,cap,rfl⟩:=h.shape;have hmax:l.length≤9223372036854775807:=h.len;refine akk Tryz.func70 Tryz.ntmps70 fun ac S=>akg fun _ aP=>adr S 1 [] [(4,.i 0)] fun S=>akf<|aP _ _<|wp_seq_k fun _ fE=>akg fun _ iM=>adr S 3 [Sx.kw 7 ((i:Int)-1)] [(5,.i ((i:Int)-1))] (hk:=⟨Sx.H9 (by omega),trivial⟩) fun S=>akf<|iM _ _<|wp_block ?_;refine Vp.loop (ι:=Int) (fun p a' w'=>(-1≤p∧p<i∧nH (iy (keys l)) ((iy (keys l)) i-1) i=nH (iy (keys l)) ((iy (keys l)) i-1) (p+1).toNat)∧Sx.St w a' w' 25 [(0,.slice a l.length cap),(1,.i i),(4,.i 0),(5,.i p)] [] []) (fun p=>(p+1).toNat) (((i:Int)-1)) ⟨⟨by omega,by omega,by rw[show((i:Int)-1+1).toNat=i by omega]⟩,S.sn⟩ ?_;rintro z ac u hI;try dsimp only at hI
 obtain⟨hR,S⟩:=hI;refine wp_seq_k fun _ lX=>akg fun _ dG=>adr S 2 [] [(9,.bool (0≤z))] fun S=>akf (dG _ _ ?_);refine aki S (fun hc6=>?_) (fun hc6=>?_)
 ·obtain⟨j,rfl⟩:=Uf (of_decide_eq_true hc6);rw[show((j:Int)+1).toNat=j+1 by omega]at hR;refine wp_skip<|lX _ _<|wp_seq_k fun _ jT=>wp_block<|wp_seq_k (fun _ dM=>?_);have qP:j<l.length:=by omega
  obtain⟨b10,o11,rfl,x16,xK,I7,Lp⟩:=Vp.gY h (fun _=>rfl) (j) qP;have S:=S.view0 I7 Lp;have lt23:i<l.length:=by omega
  obtain⟨x24,Yd,afa,afb⟩:=Vp.Ye h (fun _=>rfl) (i) lt23;have hd0:0≤x24.depth∧x24.depth<8:=Yd▸hd;have S:=S.view0 afa afb;refine akr S 12 [.idx j l.length,.mem 1 2,.idx i l.length,.mem 0 2,Sx.kw 22 (x24.depth-1)] [] [(23,.bool ((x16.depth)==(x24.depth-1)))] trivial (hk:=⟨qP,lt23,Sx.H9 (by omega),trivial⟩) fun ac u E9 S=>akf (dM _ _ ?_);refine aki S (fun Ug=>?_) (fun Ug=>?_)
  ·refine akg fun _ jK=>adr S 2 [] [(4,.i j)] fun S=>akf<|jK _ _<|akj S Tryz.results70 ?_;exact⟨by unfold tC; rw[hR.2.2,acM qP hi (by rw[xK,Yd]; simpa using Ug)],S.E⟩
  refine wp_skip<|jT _ _<|Vp.region<|adr S 3 [Sx.kw 11 ((j:Int)-1)] [(5,.i ((j:Int)-1))] (hk:=⟨Sx.H9 (by omega),trivial⟩) fun S=>akf ?_;show ∃i',_∧_;exact⟨((j:Int)-1),⟨⟨by omega,by omega,by rw[hR.2.2,show((j:Int)-1+1).toNat=j by omega]; exact ae8 qP hi (by rw[xK,Yd]; simpa using Ug)⟩,S.sn⟩,by show((j:Int)-1+1).toNat<((j:Int)+1).toNat; omega⟩
 refine wp_exit<|fE _ _<|akg fun _ jh=>adr S 1 [] [(4,.i (-1))] fun S=>akf<|jh _ _<|akj S Tryz.results70 ?_;have hz:=of_decide_eq_false hc6;exact⟨by unfold tC; rw[hR.2.2,show(z+1).toNat=0 by omega]; rfl,S.E⟩
theorem aa1{l:List aj}{k:Nat}{x:aj}(hk:k<l.length)(hx:l[k]=x):(l.take k).map aj.id++[x.id]=(l.take (k+1)).map aj.id:=by
 rw[List.take_succ_eq_append_getElem hk,List.map_append,hx]; rfl
theorem xI{w:World}{s:aF}(h:bP K w s)(hg:jX w) :
  Calls Tryz.prog 20 #[s.v] w fun e w'=>e = .returned (.tuple #[.i s.key.chk.1,.i s.key.chk.2])∧Ext w w':=by
 have hmax:s.ns.length≤9223372036854775807:=h.2.2.1.len;refine akk Tryz.func20 Tryz.ntmps20 (fun ac S=>?_);obtain⟨a,cap,es⟩:∃a c,s.s = .slice a s.ns.length c:=⟨_,_,rfl⟩;have hr:=h.2.2.1;rw[es]at hr;refine akg fun _ aP=>akh S 1 s.cells fun ac u b2 E3 hb4 S=>adr S 2 [] [(2,.i 0),(3,.i 0)] fun S=>akf<|aP _ _<|wp_seq_k fun _ dG=>akg fun _ jl=>adr S 18 [.mem 0 0,.mem 0 0,.mem 0 1,.mem 0 1] [(26,.bool ((((decide (s.w<1))||(decide (256<s.w)))||(decide (s.h<1)))||(decide (256<s.h))))] fun S=>akf (jl _ _ ?_);refine aki S (fun lD=>?_) (fun lD=>?_)
 ·refine akg fun _ dM=>adr S 2 [] [(2,.i 6),(3,.i 0)] fun S=>akf<|dM _ _<|Sx.rt2 S Tryz.results20 ?_;exact⟨by rw[Qc (s:=s.key) lD],S.E⟩
 refine wp_skip<|dG _ _<|wp_seq_k fun _ gX=>akg fun _ fD=>adr S 4 [.mem 0 6,.re 28 s.s (.slice a s.ns.length cap)] [(30,.bool (64<(s.ns.length:Int)))] (hk:=⟨es,trivial⟩) fun S=>akf (fD _ _ ?_);refine aki S (fun fA=>?_) (fun fA=>?_)
 ·refine akg fun _ bV=>adr S 2 [] [(2,.i 5),(3,.i 64)] fun S=>akf<|bV _ _<|Vp.rt ?_;have hq:=nS (s:=s.key) lD;rw[show s.key.ns=keys s.ns from rfl,List.length_map]at hq;refine Sx.rD S Tryz.results20 ?_;exact⟨by rw[hq,if_pos (by have:=of_decide_eq_true fA; omega)],S.E⟩
 refine wp_skip<|gX _ _<|akg (fun _ gJ=>?_);have hold:=S.E.size;have ajz:=(S.bx 0).1;refine Sx.ahU S 31 (fun ac u b E0 hb hM S=>?_);have R:=Sx.Rw.nil S;have hbo:w.heap.size≤b∧b≠b2:=⟨by omega,by omega⟩;have hMo:Sx.Ow _ (Sx.Ob [(b2,s.cells)] []) (fun W=>kS Tryz.prog 3 4 W b []) _:=Sx.On.mono (Sx.OJ (hM _ _)) fun i hi=>by subst hi; exact⟨hbo.1,by simpa[Sx.Ob]using hbo.2⟩
 refine adr S 1 [] [(4,.map (some b))] fun S=>akf<|gJ _ _<|akg fun _ fC=>adr S 1 [] [(5,.i 0)] fun S=>akf<|fC _ _<|wp_seq_k fun _ fP=>akg fun _ jH=>adr S 4 [.mem 0 6,.re 33 s.s (.slice a s.ns.length cap)] [(33,.slice a s.ns.length cap),(34,.i s.ns.length),(35,.i 0)] (hk:=⟨es,trivial⟩) fun S=>akf<|jH _ _<|wp_block ?_;refine Vp.loop (ι:=Nat×Int) (fun p a' w'=>p.1≤s.ns.length∧(vJ s.ns p.1 p.2)∧Sx.Rw w w' [(b2,s.cells)] []∧Sx.Ow w.heap.size (Sx.Ob [(b2,s.cells)] []) (fun W=>kS Tryz.prog 3 4 W b ((s.ns.take p.1).map aj.id)) w'∧Sx.St w a' w' 67 [(0,s.v),(1,.pointer (some ⟨b2,0,none⟩)),(2,.i 0),(3,.i 0),(4,.map (some b)),(5,.i p.2),(33,.slice a s.ns.length cap),(34,.i s.ns.length),(35,.i p.1)] [(b2,s.cells)] []) (fun p=>s.ns.length-p.1) (0,0) ⟨Nat.zero_le _,vJ.start _,R,hMo,S.sn⟩ ?_;rintro⟨k,m⟩ ac u hI;try dsimp only at hI
 obtain⟨hk,hR,R,qY,S⟩:=hI;refine akg fun _ gI=>adr S 1 [] [(36,.bool ((k:Int)<(s.ns.length:Int)))] fun S=>akf<|gI _ _<|wp_seq_k (fun _ jm=>?_);refine aki S (fun hc19=>?_) (fun hc19=>?_)
 ·refine wp_skip<|jm _ _<|wp_seq_k fun _ iT=>wp_block<|akg (fun _ jJ=>?_);have hMl:=(Sx.On.self (qY)).lt;have lS:k<s.ns.length:=by have:=of_decide_eq_true hc19; omega
  obtain⟨b22,o23,rfl,x28,su,I5,KY⟩:=Vp.gY hr (fun _=>rfl) (k) lS;have hxo:=h.2.2.2 _ (su▸List.getElem_mem lS);have S:=S.view0 I5 KY;refine adr S 3 [.idx k s.ns.length,.mem 1 0] [(37,.i k),(39,x28.v)] (hk:=⟨lS,trivial⟩) fun S=>akh S 7 (Sx.L [.i 0,.i 0,.i 0]++Sx.za++Sx.L [.slice none 0 0,.i 0,.int .u8 0,.i 0,.bool false,.bool false,.slice none 0 0,.i 0,.slice none 0 0,.i 0,.i 0,.i 0,.i 0,.slice none 0 0,.i 0,.slice none 0 0,.i 0,.i 0,.slice none 0 0,.i 0]) fun ac u b30 AY Pq S=>adr S 1 [] [(6,.i k)] fun S=>akl S 0 (off:=0) (cs:=x28.cells) rfl (fun u Nw S=>?_);have hbn:b≠b30:=by omega
  refine akf<|jJ _ _<|wp_seq_k fun _ uq=>akg fun _ oh=>adr S 1 [.mem 0 0] [(40,x28.v)] fun S=>akn S 41 (IY ((h.2.2.2 _ (su▸List.getElem_mem lS)).below S.E) (hg.below S.E)) fun ac u QJ S=>adr S 1 [] [(8,.i x28.checkN)] fun S=>akf<|oh _ _<|akg fun _ oM=>adr S 2 [] [(43,.bool ((x28.checkN) != 0))] fun S=>akf (oM _ _ ?_);refine aki S (fun hc38=>?_) (fun hc38=>?_)
  ·refine akg fun _ xg=>adr S 4 [] [(2,.i x28.checkN),(3,.i k)] fun S=>akf<|xg _ _<|Vp.rt ?_;have hq:=nS (s:=s.key) lD;rw[show s.key.ns=keys s.ns from rfl,List.length_map]at hq;refine Sx.rD S Tryz.results20 ?_;rw[if_neg (by have:=of_decide_eq_false fA; omega)]at hq;exact⟨by rw[hq,hR.bad lS su (H7 (by simpa using hc38)) (by simpa using hc38)],S.E⟩
  refine wp_skip<|uq _ _<|wp_seq_k fun _ Ai=>akg fun _ pJ=>adr S 3 [.mem 0 0] [(46,.map (some b)),(48,.i x28.id)] (fun S=>?_);obtain⟨R,Y42⟩:=R.cO S (Sx.Stp.trans (Sx.Stp.uy AY Pq) (Sx.Stp.trans (Sx.Stp.AU Nw (by simp[Sx.vb])) (Sx.Stp.ext QJ)));have hMn:=Sx.On.self ((Sx.On.step qY Y42));refine Sx.afS S 49 hMn Tryz.underlying3 Tryz.underlying4 Tryz.underlying85 (Yc _) (hxo.1.1) fun ac S=>akf (pJ _ _ ?_);refine aki S (fun Me=>?_) (fun Me=>?_)
  ·refine akg fun _ uw=>adr S 3 [] [(2,.i 7),(3,.i k)] fun S=>akf<|uw _ _<|Vp.rt ?_;have hq:=nS (s:=s.key) lD;rw[show s.key.ns=keys s.ns from rfl,List.length_map]at hq;refine Sx.rD S Tryz.results20 ?_;rw[if_neg (by have:=of_decide_eq_false fA; omega)]at hq;exact⟨by rw[hq,hR.bad lS su (JY (by simpa using hc38) (by rw[←Mc]; exact Me)) (by decide)],S.E⟩
  refine wp_skip<|Ai _ _<|wp_seq_k fun _ xB=>akg fun _ xk=>adr S 4 [.mem 0 2] [(54,.bool (m<x28.depth))] fun S=>akf (xk _ _ ?_);refine aki S (fun hc47=>?_) (fun hc47=>?_)
  ·refine akg fun _ uU=>adr S 3 [] [(2,.i 17),(3,.i k)] fun S=>akf<|uU _ _<|Vp.rt ?_;have hq:=nS (s:=s.key) lD;rw[show s.key.ns=keys s.ns from rfl,List.length_map]at hq;refine Sx.rD S Tryz.results20 ?_;rw[if_neg (by have:=of_decide_eq_false fA; omega)]at hq;exact⟨by rw[hq,hR.bad lS su (Ec (by simpa using hc38) (by rw[←Mc]; exact Me) (by have:=of_decide_eq_true hc47; rw[←hR.room]; omega)) (by decide)],S.E⟩
  refine wp_skip<|xB _ _<|akg fun _ uV=>adr S 3 [.mem 0 0] [(56,.map (some b)),(58,.i x28.id)] (fun S=>?_);have hMn:=Sx.On.self ((Sx.On.step qY Y42));refine Sx.ahW S hMn (S.E.size |> fun _=>hbo.1) Tryz.underlying3 Tryz.underlying4 Tryz.underlying85 (by rw[List.length_map,List.length_take]; show _<9223372036854775807; omega) hxo.1.1 (fun u hM2 hgr S=>?_);have R:=Sx.Rw.nil S;have hMo:Sx.Ow w.heap.size (Sx.Ob [(b30,x28.cells),(b2,s.cells)] []) (fun W=>kS Tryz.prog 3 4 W b ((s.ns.take (k+1)).map aj.id)) u:=by
   rw[aa1 lS su]at hM2;exact Sx.On.mono (Sx.OJ hM2) fun i hi=>by subst hi; exact⟨hbo.1,by simpa[Sx.Ob]using ⟨hbn,hbo.2⟩⟩
  refine akf<|uV _ _<|akg fun _ zk=>adr S 3 [.mem 0 2] [(5,.i x28.depth)] fun S=>akf<|zk _ _<|akg fun _ CQ=>adr S 3 [.mem 0 1] [(63,.bool ((x28.kind)==1))] fun S=>akf (CQ _ _ ?_);refine aki S (fun uM=>?_) (fun uM=>?_)
  ·refine Vp.region<|adr S 3 [Sx.kw 65 (x28.depth+1)] [(5,.i (x28.depth+1))] (hk:=⟨Sx.H9 (by have:=rH (n:=x28) (by simpa using hc38); omega),trivial⟩) fun S=>akf<|iT _ _<|Vp.region<|adr S 2 [.re 66 (.i (IntKind.i64.wrap ((k:Int)+1))) (.i (k+1:Nat))] [(35,.i (k+1:Nat))] (hk:=⟨aks (by omega),trivial⟩) fun S=>akf ?_;have S:=S.oq 1;obtain⟨R,Y53⟩:=R.cO S (Sx.Stp.uX 1);show ∃i',_∧_;exact⟨((k+1),(x28.depth+1)),⟨by omega,hR.next lS su (H8 (by simpa using hc38) (by rw[←Mc]; exact Me) (by have:=of_decide_eq_false hc47; rw[←hR.room]; omega)) (by rw[if_pos (by simpa using uM)]),R,(Sx.On.step hMo Y53),S.sn⟩,by show _-_<_-_; omega⟩
  refine wp_skip<|iT _ _<|Vp.region<|adr S 2 [.re 66 (.i (IntKind.i64.wrap ((k:Int)+1))) (.i (k+1:Nat))] [(35,.i (k+1:Nat))] (hk:=⟨aks (by omega),trivial⟩) fun S=>akf ?_;have S:=S.oq 1;obtain⟨R,Y54⟩:=R.cO S (Sx.Stp.uX 1);show ∃i',_∧_;exact⟨((k+1),x28.depth),⟨by omega,hR.next lS su (H8 (by simpa using hc38) (by rw[←Mc]; exact Me) (by have:=of_decide_eq_false hc47; rw[←hR.room]; omega)) (by rw[if_neg (by simpa using uM)]),R,(Sx.On.step hMo Y54),S.sn⟩,by show _-_<_-_; omega⟩
 refine wp_exit<|fP _ _<|akg fun _ zT=>adr S 2 [] [(2,.i 0),(3,.i 0)] fun S=>akf<|zT _ _<|Vp.rt ?_;have hq:=nS (s:=s.key) lD;rw[show s.key.ns=keys s.ns from rfl,List.length_map]at hq;refine Sx.rD S Tryz.results20 ?_;rw[if_neg (by have:=of_decide_eq_false fA; omega)]at hq;exact⟨by rw[hq,hR.done (by have:=of_decide_eq_false hc19; omega)],S.E⟩
end
section
set_option maxHeartbeats 1600000
set_option maxRecDepth 100000
open Go.RowKit
variable{α:Type}{K:Nat}
noncomputable def aO.index(s:aO)(id:Int):Int:=if s.valid=true then gu s.ns id else -1
noncomputable def aO.has(s:aO)(i:Int):Bool:=(decide (0≤i)&&decide (i<(s.ns.length:Int)))&&s.valid
noncomputable def aO.endOf(s:aO)(i:Int):Int:=if s.has i=true then (dR s.ns i.toNat:Int)else -1
noncomputable def aO.Oh(s:aO)(i:Int):Int:=if s.has i=true then tC (iy s.ns) i.toNat else -1
theorem aa2{s:aF}{i:Int}(h:s.key.has i=true):s.key.valid=true∧∃k:Nat,i=(k:Int)∧k<s.ns.length:=by
 unfold aO.has at h;simp only[Bool.and_eq_true,decide_eq_true_eq,aF.key,List.length_map]at h;exact⟨h.2,i.toNat,by omega,by omega⟩
theorem aa3{s:aO}(h:s.valid=true):VL s.ns:=(aO.nG.1 h).2.2
theorem JZ{s:aF}(h:s.key.valid=true){i:Nat}(hi:i<s.ns.length):0≤s.ns[i].depth∧s.ns[i].depth<8:=(aa3 h).depth s.ns[i].key (List.mem_map.2 ⟨_,List.getElem_mem hi,rfl⟩)
theorem eF.eqP{w w':World}{a b:aj}(h:eF K w a)(h':eF K w' b):a.eqP b=decide (a.key=b.key):=acK h.nrm h'.nrm
theorem aa4(c d:bY):(((c.r.toNat:Int)==d.r.toNat)&&(((c.g.toNat:Int)==d.g.toNat)&&(((c.b.toNat:Int)==d.b.toNat)&&((c.a.toNat:Int)==d.a.toNat))))=decide (c=d):=by
 rw[Bool.eq_iff_iff];simp only[Bool.and_eq_true,beq_iff_eq,LY,decide_eq_true_eq];exact VP
theorem Ia(c d:bY)(w:World):(binOp .eql 23 (.agg c.cells.toArray) (.agg d.cells.toArray)).run Tryz.prog w = .ok (.bool (c=d)) w:=by
 rw[←aa4]; exact Jw ..
theorem agB(a b c d e f g h:Int)(w:World):(binOp .neq 23 (.agg #[.int .u8 a,.int .u8 b,.int .u8 c,.int .u8 d]) (.agg #[.int .u8 e,.int .u8 f,.int .u8 g,.int .u8 h])).run Tryz.prog w = .ok (.bool (!((a==e)&&((b==f)&&((c==g)&&(d==h)))))) w:=by
 simp[go_sem];(repeat' split)<;>simp_all
theorem afc(c d:bY)(w:World):(binOp .neq 23 (.agg c.cells.toArray) (.agg d.cells.toArray)).run Tryz.prog w = .ok (.bool (!decide (c=d))) w:=by
 rw[←aa4]; exact agB ..
theorem afd{l m:List aj}{k:Nat}(hk:l.length≤k)(h:l.length=m.length)(hR:(keys l).take k=(keys m).take k):true=decide (keys l=keys m):=by
 rw[List.take_of_length_le (by simpa using hk),List.take_of_length_le (by simpa using (show m.length≤k by omega))]at hR;simp[hR]
theorem acN{l m:List aj}{k:Nat}(h1:k<l.length)(h2:k<m.length)(hR:(keys l).take k=(keys m).take k){x y:aj}(hx:l[k]=x)(hy:m[k]=y)(h:(!decide (x.key=y.key))=false):(keys l).take (k+1)=(keys m).take (k+1):=by
 rw[List.take_succ_eq_append_getElem (by simpa using h1),List.take_succ_eq_append_getElem (by simpa using h2),hR,Dw h1 hx,Dw h2 hy];simp at h;rw[h]
theorem agC{l m:List aj}{k:Nat}(h1:k<l.length)(h2:k<m.length){x y:aj}(hx:l[k]=x)(hy:m[k]=y)(h:(!decide (x.key=y.key))=true):false=decide (keys l=keys m):=by
 symm;rw[decide_eq_false_iff_not];intro e;have:=congrArg (·[k]?) e;simp only[keys,List.getElem?_map,List.getElem?_eq_getElem h1,List.getElem?_eq_getElem h2,hx,hy,Option.map_some,Option.some.injEq]at this;simp[this]at h
theorem agD{s t:aF}(h:((((s.w) != t.w)||((s.h) != t.h))||(!decide (s.bg=t.bg))||((s.ns.length:Int) != (t.ns.length:Int)))=true):false=decide (s.key=t.key):=by
 symm;rw[decide_eq_false_iff_not];intro e;simp only[aF.key,aO.mk.injEq]at e;have hl:=congrArg List.length e.2.2.2;simp at hl;simp[e.1,e.2.1,e.2.2.1,hl]at h
theorem aa5{s t:aF}(h:((((s.w) != t.w)||((s.h) != t.h))||(!decide (s.bg=t.bg))||((s.ns.length:Int) != (t.ns.length:Int)))=false):s.ns.length=t.ns.length:=by
 simp at h; omega
theorem adJ{s t:aF}{b:Bool}(h:((((s.w) != t.w)||((s.h) != t.h))||(!decide (s.bg=t.bg))||((s.ns.length:Int) != (t.ns.length:Int)))=false)(hb:b=decide (keys s.ns=keys t.ns)):b=decide (s.key=t.key):=by
 rw[hb];simp at h;simp[aF.key,h]
theorem acO{w:World}{a b:aj}(h:eF K w a)(h':eF K w b):Calls Tryz.prog 56 #[a.v,b.v] w fun e w'=>e = .returned (.bool (a.key=b.key))∧Ext w w':=by
 rw[←h.eqP h']; exact Jf h h'
theorem qw{w:World}{s:aF}(h:bP K w s)(hg:jX w) :
  Calls Tryz.prog 22 #[s.v] w fun e w'=>e = .returned (.bool s.key.valid)∧Ext w w':=by
 skip;refine akk Tryz.func22 Tryz.ntmps22 fun ac S=>akg fun _ aP=>akh S 1 s.cells fun ac u b2 E3 hb4 S=>adr S 1 [] [(2,.bool false)] fun S=>akf<|aP _ _<|akg fun _ dG=>adr S 1 [.mem 0 0] [(6,s.v)] fun S=>akn S 7 (xI (h.below S.E) (hg.below S.E)) fun ac u E6 S=>adr S 5 [] [(3,.i s.key.chk.1)] fun S=>akf<|dG _ _<|akg fun _ jT=>adr S 3 [] [(2,.bool ((s.key.chk.1)==0))] fun S=>akf<|jT _ _<|akj S Tryz.results22 ?_;exact⟨rfl,S.E⟩
theorem J3{w:World}{s:aF}(h:bP K w s)(hg:jX w)(i:Int) :
  Calls Tryz.prog 57 #[s.v,.i i] w fun e w'=>e = .returned (.bool (s.key.has i))∧Ext w w':=by
 skip;refine akk Tryz.func57 Tryz.ntmps57 fun ac S=>akg fun _ aP=>akh S 2 s.cells fun ac u b2 E3 hb4 S=>adr S 1 [] [(4,.bool false)] fun S=>akf<|aP _ _<|akg fun _ dG=>aku S 14 [.mem 0 6,.mem 0 0] [(_,_,((decide (0≤i))&&(decide (i<(s.ns.length:Int)))),.bool s.key.valid)] [(4,.bool (((decide (0≤i))&&(decide (i<(s.ns.length:Int))))&&s.key.valid))] ⟨fun u hC g=>qw (h.below (Ext.trans' S.E hC)) (hg.below (Ext.trans' S.E hC)),trivial⟩ fun ac u E6 S=>akf<|dG _ _<|akj S Tryz.results57 ?_;exact⟨by unfold aO.has; rw[show s.key.ns.length=s.ns.length from List.length_map ..],S.E⟩
theorem Ol{w:World}{s:aF}(h:bP K w s)(hg:jX w)(id:Int) :
  Calls Tryz.prog 25 #[s.v,.i id] w fun e w'=>e = .returned (.i (s.key.index id))∧Ext w w':=by
 skip;refine akk Tryz.func25 Tryz.ntmps25 fun ac S=>akg fun _ aP=>akh S 2 s.cells fun ac u b2 E3 hb4 S=>adr S 1 [] [(4,.i 0)] fun S=>akf<|aP _ _<|wp_seq_k fun _ dG=>akg fun _ jl=>adr S 1 [.mem 0 0] [(5,s.v)] fun S=>akn S 6 (qw (h.below S.E) (hg.below S.E)) fun ac u E7 S=>adr S 1 [] [(7,.bool (!s.key.valid))] fun S=>akf (jl _ _ ?_);refine aki S (fun hc8=>?_) (fun hc8=>?_)
 ·refine akg fun _ gX=>adr S 1 [] [(4,.i (-1))] fun S=>akf<|gX _ _<|akj S Tryz.results25 ?_;exact⟨by unfold aO.index; rw[if_neg (by simpa using hc8)],S.E⟩
 refine wp_skip<|dG _ _<|akg (fun _ fD=>?_);have hv:s.key.valid=true:=by simpa using hc8
 refine adr S 3 [.mem 0 6] [(9,s.s),(10,.i id)] fun S=>akn S 11 (Au (id:=id) (h.2.2.1.below S.E)) fun ac u xA S=>adr S 1 [] [(4,.i (gu (keys s.ns) id))] fun S=>akf<|fD _ _<|akj S Tryz.results25 ?_;exact⟨by unfold aO.index; rw[if_pos hv]; rfl,S.E⟩
theorem Oi{w:World}{s:aF}(h:bP K w s)(hg:jX w)(i:Int) :
  Calls Tryz.prog 24 #[s.v,.i i] w fun e w'=>e = .returned (.i (s.key.endOf i))∧Ext w w':=by
 skip;refine akk Tryz.func24 Tryz.ntmps24 fun ac S=>akg fun _ aP=>akh S 2 s.cells fun ac u b2 E3 hb4 S=>adr S 1 [] [(4,.i 0)] fun S=>akf<|aP _ _<|wp_seq_k fun _ dG=>akg fun _ jl=>adr S 2 [.mem 0 0] [(5,s.v),(6,.i i)] fun S=>akn S 7 (J3 (h.below S.E) (hg.below S.E) i) fun ac u E7 S=>adr S 1 [] [(8,.bool (!(s.key.has i)))] fun S=>akf (jl _ _ ?_);refine aki S (fun hc8=>?_) (fun hc8=>?_)
 ·refine akg fun _ gX=>adr S 1 [] [(4,.i (-1))] fun S=>akf<|gX _ _<|akj S Tryz.results24 ?_;exact⟨by unfold aO.endOf; rw[if_neg (by simpa using hc8)],S.E⟩
 refine wp_skip<|dG _ _<|akg (fun _ fD=>?_);have hh:s.key.has i=true:=by simpa using hc8
 obtain⟨hv,k,rfl,hk⟩:=aa2 hh;refine adr S 3 [.mem 0 6] [(10,s.s),(11,.i k)] fun S=>akn S 12 (Dx (h.2.2.1.below S.E) hk rfl rfl) fun ac u xA S=>adr S 1 [] [(4,.i (dR (keys s.ns) k:Nat))] fun S=>akf<|fD _ _<|akj S Tryz.results24 ?_;exact⟨by unfold aO.endOf; rw[if_pos hh]; rfl,S.E⟩
theorem Oj{w:World}{s:aF}(h:bP K w s)(hg:jX w)(i:Int) :
  Calls Tryz.prog 36 #[s.v,.i i] w fun e w'=>e = .returned (.i (s.key.Oh i))∧Ext w w':=by
 skip;refine akk Tryz.func36 Tryz.ntmps36 fun ac S=>akg fun _ aP=>akh S 2 s.cells fun ac u b2 E3 hb4 S=>adr S 1 [] [(4,.i 0)] fun S=>akf<|aP _ _<|wp_seq_k fun _ dG=>akg fun _ jl=>adr S 2 [.mem 0 0] [(5,s.v),(6,.i i)] fun S=>akn S 7 (J3 (h.below S.E) (hg.below S.E) i) fun ac u E7 S=>adr S 1 [] [(8,.bool (!(s.key.has i)))] fun S=>akf (jl _ _ ?_);refine aki S (fun hc8=>?_) (fun hc8=>?_)
 ·refine akg fun _ gX=>adr S 1 [] [(4,.i (-1))] fun S=>akf<|gX _ _<|akj S Tryz.results36 ?_;exact⟨by unfold aO.Oh; rw[if_neg (by simpa using hc8)],S.E⟩
 refine wp_skip<|dG _ _<|akg (fun _ fD=>?_);have hh:s.key.has i=true:=by simpa using hc8
 obtain⟨hv,k,rfl,hk⟩:=aa2 hh;refine adr S 3 [.mem 0 6] [(10,s.s),(11,.i k)] fun S=>akn S 12 (Md (h.2.2.1.below S.E) hk (JZ hv hk) rfl) fun ac u xA S=>adr S 1 [] [(4,.i (tC (iy (keys s.ns)) k))] fun S=>akf<|fD _ _<|akj S Tryz.results36 ?_;exact⟨by unfold aO.Oh; rw[if_pos hh]; rfl,S.E⟩
end
end Go.Proofs.YtfmkkemfhjkajaaGreatDoor
