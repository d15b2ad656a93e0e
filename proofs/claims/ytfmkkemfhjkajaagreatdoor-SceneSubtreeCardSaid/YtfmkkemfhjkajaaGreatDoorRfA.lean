/- Reference 37: what it asks of scenes. -/
import Derived.Test.YtfmkkemfhjkajaaGreatDoorEx37
set_option maxHeartbeats 3200000
set_option maxRecDepth 100000
namespace Go.Proofs.YtfmkkemfhjkajaaGreatDoor
open _root_.Go.Proofs.Tryz
open Go.RowKit
variable{α:Type}{K:Nat}
set_option linter.unusedVariables false
theorem zV{j:Nat}(h:j+1≤9223372036854775807):Value.i (IntKind.i64.wrap (((j+1:Nat):Int)-1)) = .i j:=by
 have:IntKind.i64.wrap (((j+1:Nat):Int)-1)=(j:Int):=by rw[amN]; omega
 rw[this]
theorem DI{l:List aj}{j:Nat}{p x:aj}(hj:j<l.length)(hp:l[j]=p):tq ((keys l).take (j+1)) x.key=((((p.kind)==1)&&((x.depth)==(p.depth+1)))||decide (x.depth≤p.depth)):=by
 unfold tq;rw[alY (by simpa using hj),List.getLast?_concat,List.getElem_map,hp];rfl
theorem Ic{l:List aj}{id:Int}:decide (0≤jB (keys l) id)=(keys l).any fun κ=>κ.id==id:=by
 unfold jB;cases h:jl (keys l) id with
 | none =>
  have h2:=TJ.1 h;rw[show(decide ((0:Int) ≤ -1))=false from rfl];symm;rw[List.any_eq_false];intro x hx;simpa using h2 x hx
 | some i =>
  obtain⟨hi,h3⟩:=zN h;rw[show(decide ((0:Int)≤(i:Int)))=true by simp];symm;rw[anw];exact⟨_,aly hi,by simpa using h3⟩
theorem LW{w:World}{a b:aj}(h:fK K w a)(h':fK K w b):Calls prog 28 #[a.v,b.v] w fun e w'=>e = .returned (.bool (a.key=b.key))∧Ext w w':=by
 rw[←acp h.nrm h'.nrm]; exact KH h h'
theorem abe{w:World}{a:aj}(h:fK K w a):Calls prog 90 #[a.v] w fun e w'=>e = .returned (.i a.checkN)∧Ext w w':=by
 rw[←TF]; exact Lm h
theorem Yl{w:World}{a:Option Addr}{L:List aj}{c i:Nat}(h:aP 47 aj.cells w (.slice a L.length c) L)(hi:i≤L.length):aP 47 aj.cells w (.slice (Sx.wu a 0 c 47) i c) (L.take i):=by
 have:=Sx.oQ h (alg i) hi (alq hi (Sx.lN h)) (alf c);simpa using this
structure Ym (l:List aj) (k:Nat):Prop where
 at':uM l k (nV ((keys l).take k))
 ok:∀(j:Nat) (hj:j<l.length),j<k→l[j].checkN=0
theorem Ym.next{l:List aj}{k:Nat}{x:aj}(h:Ym l k)(hk:k<l.length)(hx:l[k]=x)(hw:eY ((keys l).take k) x.key=0):Ym l (k+1):=by
 refine⟨h.at'.next hk hx hw ?_,fun j hj hjk=>?_⟩
 ·rw[alY (by simpa using hk),GR,Cj hk hx]; rfl
 by_cases e:j=k
 ·subst e;rw[hx,←nX];exact(Dt.1 hw).1
 exact h.ok j hj (by omega)
theorem Ym.dep{l:List aj}{k:Nat}(h:Ym l k):∀(j:Nat) (hj:j<l.length),j<k→0≤l[j].depth∧l[j].depth<8:=fun j hj hjk=>by
 have:=qO (h.ok j hj hjk);omega
theorem X0{w:World}{v:Value}{l:List aj}(h:aP 47 aj.cells w v l){i:Nat}(hi:i<l.length){z:Int}(hz:z=(i:Int)){r:Nat}(hr:r=dU (keys l) i) :
  Calls prog 68 #[v,.i z] w fun e w'=>e = .returned (.i r)∧Ext w w':=by
 subst hz hr;obtain⟨a,cap,rfl⟩:=h.shape;have hmax:l.length≤9223372036854775807:=h.len;refine akN func68 ntmps68 fun ac S=>akJ fun _ aS=>adr S 1 [] [(4,.i 0)] fun S=>akI<|aS _ _<|akJ fun _ fD=>adr S 3 [.re 7 (.i (IntKind.i64.wrap ((i:Int)+1))) (.i (i+1:Nat))] [(5,.i (i+1:Nat))] (hk:=⟨akV (by omega),trivial⟩) fun S=>akI<|fD _ _<|ak6 fun _ iD=>ak8 ?_;refine alC (ι:=Nat) (fun p a' w'=>(i<p∧p≤l.length∧∀j,i<j→j<p→jE (keys l) i<jE (keys l) j)∧Sx.St w a' w' 28 [(0,.slice a l.length cap),(1,.i i),(4,.i 0),(5,.i p)] [] []) (fun p=>l.length-p) ((i+1)) ⟨⟨by omega,by omega,fun j h1 h2=>by omega⟩,S.sn⟩ ?_;rintro k ac u hI;try dsimp only at hI
 obtain⟨hR,S⟩:=hI;refine ak6 fun _ lI=>ak6 (fun _ dB=>?_);rcases alW k l.length with hk | hk
 ·have ek:decide ((k:Int)<(l.length:Int))=true:=ame (by omega);obtain⟨b1,o1,c1,hv1,hb1,hr1⟩:=Vp.jm h (fun _=>rfl) i hi;simp only[alF,true_and]at hv1;obtain⟨rfl,rfl⟩:=hv1;obtain⟨b2,o2,c2,hv2,hb2,hr2⟩:=Vp.jm h (fun _=>rfl) k hk;simp only[alF,ald,amw,true_and,and_true]at hv2;obtain⟨⟨rfl,rfl⟩,rfl⟩:=hv2;obtain⟨x,hx⟩:∃z,l[i]=z:=⟨_,rfl⟩;rw[hx]at hr1;obtain⟨y,hy⟩:∃z,l[k]=z:=⟨_,rfl⟩;rw[hy]at hr2;have S:=S.view0 hb1 hr1;have S:=S.view0 hb2 hr2;refine akU S 17 [.re 11 (.bool ((k:Int)<(l.length:Int))) (.bool true),.idx k l.length,.mem 0 2,.idx i l.length,.mem 1 2] [] [(24,.bool (x.depth<y.depth))] trivial (hk:=⟨(alb Value.bool ek),hk,hi,trivial⟩) fun ac u E6 S=>akI (dB _ _ ?_);refine akL S (fun kW=>?_) (fun kW=>?_)
  ·refine ak7<|lI _ _<|ak8<|alc<|adr S 3 [.re 26 (.i (IntKind.i64.wrap ((k:Int)+1))) (.i (k+1:Nat))] [(5,.i (k+1:Nat))] (hk:=⟨akV (by omega),trivial⟩) fun S=>akI ?_;show ∃i',_∧_;exact⟨(k+1),⟨⟨by omega,by omega,fun j h1 h2=>by
    by_cases e:j=k
    ·subst e; rw[gB hi,gB hk,hx,hy]; have:=alj kW; omega
    exact hR.2.2 j h1 (by omega)⟩,S.sn⟩,by show l.length-(k+1)<l.length-k; omega⟩
  refine alk<|iD _ _<|akJ fun _ dP=>adr S 2 [] [(4,.i k)] fun S=>akI<|dP _ _<|akM S results68 ?_;have he:dU (keys l) i=k:=by
   rw[uw (by simpa using hi)];exact Ap (by simpa using hi) hR.1 (by simpa using hR.2.1) hR.2.2 (fun hk=>by rw[gB hi,gB (by simpa using hk),hx,hy]; have:=alo kW; omega)
  exact⟨by rw[he],S.E⟩
 have ek:decide ((k:Int)<(l.length:Int))=false:=amr (by omega);refine akU S 17 [.re 11 (.bool ((k:Int)<(l.length:Int))) (.bool false),.dead 13 (.bool false),.dead 14 (.bool false),.dead 15 (.bool false),.dead 16 (.bool false),.dead 17 (.bool false),.dead 18 (.bool false),.dead 19 (.bool false),.dead 20 (.bool false),.dead 21 (.bool false),.dead 22 (.bool false),.dead 23 (.bool false)] [] [(24,.bool false)] trivial (hk:=⟨(alb Value.bool ek),trivial⟩) fun ac u E9 S=>akI<|dB _ _<|ak1 S<|alk<|iD _ _<|akJ fun _ fE=>adr S 2 [] [(4,.i k)] fun S=>akI<|fE _ _<|akM S results68 ?_;have he:dU (keys l) i=k:=by
  rw[uw (by simpa using hi)];exact Ap (by simpa using hi) hR.1 (by simpa using hR.2.1) hR.2.2 (fun hk2=>by simp at hk2; omega)
 exact⟨by rw[he],S.E⟩
theorem Um{w:World}{v:Value}{l:List aj}(h:aP 47 aj.cells w v l){id:Int} :
  Calls prog 69 #[v,.i id] w fun e w'=>e = .returned (.i (jB (keys l) id))∧Ext w w':=by
 obtain⟨a,cap,rfl⟩:=h.shape;have hmax:l.length≤9223372036854775807:=h.len;refine akN func69 ntmps69 fun ac S=>akJ fun _ aS=>adr S 1 [] [(4,.i 0)] fun S=>akI<|aS _ _<|ak6 fun _ fD=>akJ fun _ iD=>adr S 1 [] [(5,.i 0)] fun S=>akI<|iD _ _<|ak8 ?_;refine alC (ι:=Nat) (fun p a' w'=>p≤l.length∧(∀(j:Nat) (hj:j<l.length),j<p→l[j].id≠id)∧Sx.St w a' w' 20 [(0,.slice a l.length cap),(1,.i id),(4,.i 0),(5,.i p)] [] []) (fun p=>l.length-p) (0) ⟨alg _,fun j hj h=>by omega,S.sn⟩ ?_;rintro k ac u hI;try dsimp only at hI
 obtain⟨hk,hR,S⟩:=hI;refine ak6 fun _ lI=>akJ fun _ dB=>adr S 4 [] [(9,.bool ((k:Int)<(l.length:Int)))] fun S=>akI (dB _ _ ?_);refine akL S (fun hc6=>?_) (fun hc6=>?_)
 ·refine ak7<|lI _ _<|ak6 fun _ kJ=>ak8<|akJ (fun _ dP=>?_);have tY:k<l.length:=by have:=alj hc6; omega
  obtain⟨b9,o10,rfl,x15,BO,hb16,RZ⟩:=als h (fun _=>rfl) (k) tY;have S:=S.view0 hb16 RZ;refine adr S 7 [.idx k l.length,.mem 0 0] [(18,.bool ((x15.id)==id))] (hk:=⟨tY,trivial⟩) fun S=>akI (dP _ _ ?_);refine akL S (fun hc17=>?_) (fun hc17=>?_)
  ·refine akJ fun _ jh=>adr S 2 [] [(4,.i k)] fun S=>akI<|jh _ _<|akM S results69 ?_;exact⟨by rw[PG tY (by rw[BO]; simpa using hc17) hR],S.E⟩
  refine ak7<|kJ _ _<|alc<|adr S 3 [.re 11 (.i (IntKind.i64.wrap ((k:Int)+1))) (.i (k+1:Nat))] [(5,.i (k+1:Nat))] (hk:=⟨akV (by omega),trivial⟩) fun S=>akI ?_;show ∃i',_∧_;exact⟨(k+1),⟨by omega,(JF tY hR (by rw[BO]; simpa using hc17)),S.sn⟩,by show _-_<_-_; omega⟩
 refine alk<|fD _ _<|akJ fun _ jf=>adr S 1 [] [(4,.i (-1))] fun S=>akI<|jf _ _<|akM S results69 ?_;have hk:=alo hc6;exact⟨by rw[GV (fun j hj=>hR j hj (by omega))],S.E⟩
theorem MH{w:World}{v:Value}{l:List aj}(h:aP 47 aj.cells w v l){i:Nat}(hi:i<l.length)(hd:∀(j:Nat) (hj:j<l.length),j<i→0≤l[j].depth∧l[j].depth<8){q:Int}(hz:q=(i:Int)) :
  Calls prog 91 #[v,.i q] w fun e w'=>e = .returned (.bool (tq ((keys l).take i) l[i].key))∧Ext w w':=by
 subst hz;obtain⟨a,cap,rfl⟩:=h.shape;have hmax:l.length≤9223372036854775807:=h.len;refine akN func91 ntmps91 fun ac S=>akJ fun _ aS=>adr S 1 [] [(4,.bool false)] fun S=>akI<|aS _ _<|ak6 fun _ fD=>akJ fun _ iD=>adr S 2 [] [(6,.bool (((i:Int))==0))] fun S=>akI (iD _ _ ?_);refine akL S (fun hc4=>?_) (fun hc4=>?_)
 ·refine akJ (fun _ dB=>?_);obtain rfl:i=0:=by simpa using hc4
  have agG:0<l.length:=by omega
  obtain⟨b6,o7,rfl,x12,ajb,abZ,hr9⟩:=als h (fun _=>rfl) (0) agG;have S:=S.view0 abZ hr9;refine adr S 7 [.idx 0 l.length,.mem 0 2] [(4,.bool ((x12.depth)==0))] (hk:=⟨agG,trivial⟩) fun S=>akI<|dB _ _<|akM S results91 ?_;exact⟨by rw[ajb]; rfl,S.E⟩
 refine ak7<|fD _ _<|ak6 fun _ fH=>ak6 (fun _ fJ=>?_);obtain⟨j,rfl⟩:∃j,i=j+1:=⟨i-1,by have:=hc4; simp at this; omega⟩;have Yn:j<l.length:=by omega
 obtain⟨b17,o18,rfl,x23,ae3,RX,ajc⟩:=als h (fun _=>rfl) (j) Yn;have hd0:0≤x23.depth∧x23.depth<8:=ae3▸hd j (by omega) (by omega);have S:=S.view0 RX ajc;have ae4:(j+1)<l.length:=by omega
 obtain⟨x31,hx29,J3,ajd⟩:=Vp.XR h (fun _=>rfl) ((j+1)) ae4;have S:=S.view0 J3 ajd;refine akU S 22 [.re 15 (.i (IntKind.i64.wrap (((j+1:Nat):Int)-1))) (.i j),.idx j l.length,.mem 1 1,.idx (j+1) l.length,.mem 0 2,.re 28 (.i (IntKind.i64.wrap (((j+1:Nat):Int)-1))) (.i j),.idx j l.length,.mem 1 2,Sx.kw 32 (x23.depth+1)] [] [(34,.bool (((x23.kind)==1)&&((x31.depth)==(x23.depth+1))))] trivial (hk:=⟨(zV (by omega)),Yn,ae4,(zV (by omega)),Yn,Sx.G5 (by omega),trivial⟩) fun ac u Qx S=>akI (fJ _ _ ?_);refine akL S (fun oh=>?_) (fun oh=>?_)
 ·refine akJ fun _ tJ=>adr S 1 [] [(4,.bool true)] fun S=>akI<|tJ _ _<|akM S results91 ?_;exact⟨by rw[hx29,DI Yn ae3,oh]; rfl,S.E⟩
 refine ak7<|fH _ _<|ak6 fun _ lY=>akU S 12 [.idx (j+1) l.length,.mem 0 2,.re 42 (.i (IntKind.i64.wrap (((j+1:Nat):Int)-1))) (.i j),.idx j l.length,.mem 1 2] [] [(46,.bool (x31.depth≤x23.depth))] trivial (hk:=⟨ae4,(zV (by omega)),Yn,trivial⟩) fun ac u WC S=>adr S 1 [] [(4,.bool (x31.depth≤x23.depth))] fun S=>akI<|lY _ _<|akM S results91 ?_;exact⟨by rw[hx29,DI Yn ae3,oh,anr],S.E⟩
theorem Qp{w:World}{v:Value}{l:List aj}(h:jo K w v l){i:Nat}(hi:i<l.length)(hd:∀(j:Nat) (hj:j<l.length),j<i→0≤l[j].depth∧l[j].depth<8){q:Int}(hz:q=(i:Int)) :
  Calls prog 55 #[v,.i q] w fun e w'=>e = .returned (.i (eY ((keys l).take i) l[i].key))∧Ext w w':=by
 subst hz;obtain⟨a,cap,rfl⟩:=h.1.shape;have hmax:l.length≤9223372036854775807:=h.1.len;have hlc:=Sx.lN h.1;refine akN func55 ntmps55 fun ac S=>akJ fun _ aS=>adr S 1 [] [(4,.i 0)] fun S=>akI<|aS _ _<|ak6 fun _ fD=>akJ (fun _ iD=>?_);have lt9:i<l.length:=hi;obtain⟨b4,o5,rfl,x10,Xv,JZ,hr7⟩:=als h.1 (fun _=>rfl) (i) lt9;have S:=S.view0 JZ hr7;refine adr S 4 [.idx i l.length,.mem 0 0] [(9,x10.v)] (hk:=⟨lt9,trivial⟩) fun S=>akQ S 10 (abe ((h.2 _ (Xv▸aly lt9)).below S.E)) fun ac u DL S=>adr S 1 [] [(5,.i x10.checkN)] fun S=>akI<|iD _ _<|akJ fun _ gu=>adr S 2 [] [(12,.bool ((x10.checkN) != 0))] fun S=>akI (gu _ _ ?_);refine akL S (fun oz=>?_) (fun oz=>?_)
 ·refine akJ fun _ fJ=>adr S 2 [] [(4,.i x10.checkN)] fun S=>akI<|fJ _ _<|akM S results55 ?_;exact⟨by rw[Xv,GY (by simpa using oz)],S.E⟩
 refine ak7<|fD _ _<|ak6 fun _ jC=>ak6 fun _ gJ=>akU S 10 [.slc 0 i cap cap,.idx i l.length,.mem 0 0] [(_,_,true,.i (jB (keys (l.take i)) x10.id))] [(23,.bool (0≤(jB (keys (l.take i)) x10.id)))] ⟨fun u hC g=>Um (id:=x10.id) ((Yl h.1 (amX hi)).below (Ext.trans' S.E hC)),trivial⟩ (hk:=⟨⟨alg _,by omega,alf _⟩,lt9,trivial⟩) fun ac u D5 S=>akI (gJ _ _ ?_);refine akL S (fun hc19=>?_) (fun hc19=>?_)
 ·refine akJ fun _ iT=>adr S 1 [] [(4,.i 7)] fun S=>akI<|iT _ _<|ala ?_;have hc0:x10.checkN=0:=by simpa using oz
  have hfa:=Ic (l:=l.take i) (id:=x10.id);rw[show keys (l.take i)=(keys l).take i from anf ..]at hfa;have hq1:=hc19;rw[show keys (l.take i)=(keys l).take i from anf ..,hfa]at hq1;refine akP S results55 ?_;exact⟨by rw[Xv,JG hc0 hq1],S.E⟩
 refine ak7<|jC _ _<|ak6 fun _ jI=>akJ fun _ jJ=>adr S 2 [] [(24,.slice (some ⟨b4,o5,none⟩) l.length cap),(25,.i i)] fun S=>akQ S 26 (jT (MH (h.1.below S.E) hi hd rfl) (show Value.bool (tq ((keys l).take i) l[i].key) = .bool (tq ((keys l).take i) x10.key) by rw[Xv])) fun ac u CQ S=>adr S 1 [] [(27,.bool (!(tq ((keys l).take i) x10.key)))] fun S=>akI (jJ _ _ ?_);refine akL S (fun hc24=>?_) (fun hc24=>?_)
 ·refine akJ fun _ tK=>adr S 1 [] [(4,.i 17)] fun S=>akI<|tK _ _<|ala ?_;have hc0:x10.checkN=0:=by simpa using oz
  have hfa:=Ic (l:=l.take i) (id:=x10.id);rw[show keys (l.take i)=(keys l).take i from anf ..]at hfa;have hq1:=hc19;rw[show keys (l.take i)=(keys l).take i from anf ..,hfa]at hq1;have hst:=GU (pre:=(keys l).take i) (x:=x10.key) (by rw[nX]; exact hc0);refine akP S results55 ?_;exact⟨by rw[Xv,Dv hc0 hq1 (by have:=hc24; rw[hst]at this; simp at this; exact this)],S.E⟩
 refine ak7<|jI _ _<|akJ fun _ jZ=>adr S 1 [] [(4,.i 0)] fun S=>akI<|jZ _ _<|ala ?_;have hc0:x10.checkN=0:=by simpa using oz
 have hfa:=Ic (l:=l.take i) (id:=x10.id);rw[show keys (l.take i)=(keys l).take i from anf ..]at hfa;have hq1:=hc19;rw[show keys (l.take i)=(keys l).take i from anf ..,hfa]at hq1;have hst:=GU (pre:=(keys l).take i) (x:=x10.key) (by rw[nX]; exact hc0);refine akP S results55 ?_;exact⟨by rw[Xv,GZ hc0 hq1 (by have:=hc24; rw[hst]at this; simp at this; exact this)],S.E⟩
theorem Qq{w:World}{s:aK}(h:bU K w s) :
  Calls prog 21 #[s.v] w fun e w'=>e = .returned (.tuple #[.i s.key.chk.1,.i s.key.chk.2])∧Ext w w':=by
 have hmax:s.ns.length≤9223372036854775807:=h.2.2.1.len;refine akN func21 ntmps21 fun ac S=>akJ fun _ aS=>akK S 1 s.cells fun ac u b2 E3 hb4 S=>adr S 2 [] [(2,.i 0),(3,.i 0)] fun S=>akI<|aS _ _<|ak6 fun _ dB=>akJ fun _ je=>adr S 18 [.mem 0 0,.mem 0 0,.mem 0 1,.mem 0 1] [(23,.bool ((((decide (s.w<1))||(decide (256<s.w)))||(decide (s.h<1)))||(decide (256<s.h))))] fun S=>akI (je _ _ ?_);refine akL S (fun kW=>?_) (fun kW=>?_)
 ·refine akJ fun _ dP=>adr S 2 [] [(2,.i 6),(3,.i 0)] fun S=>akI<|dP _ _<|Sx.rt2 S results21 ?_;exact⟨by rw[PI (s:=s.key) kW],S.E⟩
 refine ak7<|dB _ _<|ak6 fun _ iq=>akJ fun _ fE=>adr S 4 [.mem 0 6] [(27,.bool (64<(s.ns.length:Int)))] fun S=>akI (fE _ _ ?_);refine akL S (fun fU=>?_) (fun fU=>?_)
 ·refine akJ fun _ cO=>adr S 2 [] [(2,.i 5),(3,.i 64)] fun S=>akI<|cO _ _<|ala ?_;have hq:=nH (s:=s.key) kW;rw[show s.key.ns=keys s.ns from rfl,al6]at hq;refine Sx.xB S results21 ?_;exact⟨by rw[hq,ale (by have:=alj fU; omega)],S.E⟩
 refine ak7<|iq _ _<|ak6 fun _ gu=>akJ fun _ fH=>adr S 1 [] [(4,.i 0)] fun S=>akI<|fH _ _<|ak8 ?_;refine alC (ι:=Nat) (fun p a' w'=>p≤s.ns.length∧(Ym s.ns p)∧Sx.St w a' w' 43 [(0,s.v),(1,.pointer (some ⟨b2,0,none⟩)),(2,.i 0),(3,.i 0),(4,.i p)] [(b2,s.cells)] []) (fun p=>s.ns.length-p) (0) ⟨alg _,⟨uM.start _,fun j hj h=>by omega⟩,S.sn⟩ ?_;rintro k ac u hI;try dsimp only at hI
 obtain⟨hk,hR,S⟩:=hI;refine ak6 fun _ fJ=>akJ fun _ jC=>adr S 5 [.mem 0 6] [(32,.bool ((k:Int)<(s.ns.length:Int)))] fun S=>akI (jC _ _ ?_);refine akL S (fun hc17=>?_) (fun hc17=>?_)
 ·refine ak7<|fJ _ _<|ak6 fun _ jh=>ak8<|akJ fun _ jf=>adr S 3 [.mem 0 6] [(36,s.s),(37,.i k)] (fun S=>?_);have hk1:k<s.ns.length:=by have:=alj hc17; omega
  obtain⟨x,hx⟩:∃z,s.ns[k]=z:=⟨_,rfl⟩;refine akQ S 38 (jT (Qp (h.2.2.below S.E) hk1 hR.dep rfl) (show Value.i (eY ((keys s.ns).take k) s.ns[k].key) = .i (eY ((keys s.ns).take k) x.key) by rw[hx])) fun ac u zk S=>adr S 1 [] [(5,.i (eY ((keys s.ns).take k) x.key))] fun S=>akI<|jf _ _<|akJ fun _ jI=>adr S 2 [] [(40,.bool (((eY ((keys s.ns).take k) x.key)) != 0))] fun S=>akI (jI _ _ ?_);refine akL S (fun hc22=>?_) (fun hc22=>?_)
  ·refine akJ fun _ lX=>adr S 4 [] [(2,.i (eY ((keys s.ns).take k) x.key)),(3,.i k)] fun S=>akI<|lX _ _<|ala ?_;have hq:=nH (s:=s.key) kW;rw[show s.key.ns=keys s.ns from rfl,al6]at hq;refine Sx.xB S results21 ?_;rw[ak9 (by have:=alo fU; omega)]at hq;exact⟨by rw[hq,hR.at'.bad hk1 hx rfl (by simpa using hc22)],S.E⟩
  refine ak7<|jh _ _<|alc<|adr S 3 [.re 34 (.i (IntKind.i64.wrap ((k:Int)+1))) (.i (k+1:Nat))] [(4,.i (k+1:Nat))] (hk:=⟨akV (by omega),trivial⟩) fun S=>akI ?_;show ∃i',_∧_;exact⟨(k+1),⟨by omega,hR.next hk1 hx (by simpa using hc22),S.sn⟩,by show _-_<_-_; omega⟩
 refine alk<|gu _ _<|akJ fun _ kN=>adr S 2 [] [(2,.i 0),(3,.i 0)] fun S=>akI<|kN _ _<|ala ?_;have hq:=nH (s:=s.key) kW;rw[show s.key.ns=keys s.ns from rfl,al6]at hq;refine Sx.xB S results21 ?_;rw[ak9 (by have:=alo fU; omega)]at hq;exact⟨by rw[hq,hR.at'.done (by have:=alo hc17; omega)],S.E⟩
theorem Qr{w:World}{s:aK}(h:bU K w s) :
  Calls prog 51 #[s.v] w fun e w'=>e = .returned (.bool s.key.valid)∧Ext w w':=by
 skip;refine akN func51 ntmps51 fun ac S=>akJ fun _ aS=>akK S 1 s.cells fun ac u b2 E3 hb4 S=>adr S 1 [] [(2,.bool false)] fun S=>akI<|aS _ _<|akJ fun _ dB=>adr S 1 [.mem 0 0] [(6,s.v)] fun S=>akQ S 7 (Qq (h.below S.E)) fun ac u E6 S=>adr S 5 [] [(3,.i s.key.chk.1)] fun S=>akI<|dB _ _<|akJ fun _ kJ=>adr S 3 [] [(2,.bool ((s.key.chk.1)==0))] fun S=>akI<|kJ _ _<|akM S results51 ?_;exact⟨rfl,S.E⟩
theorem Qa{w:World}{s:aK}(h:bU K w s)(i:Int) :
  Calls prog 67 #[s.v,.i i] w fun e w'=>e = .returned (.bool (s.key.has i))∧Ext w w':=by
 skip;refine akN func67 ntmps67 fun ac S=>akJ fun _ aS=>akK S 2 s.cells fun ac u b2 E3 hb4 S=>adr S 1 [] [(4,.bool false)] fun S=>akI<|aS _ _<|akJ fun _ dB=>adr S 1 [.mem 0 0] [(5,s.v)] fun S=>akQ S 6 (Qr (h.below S.E)) fun ac u E6 S=>adr S 12 [.mem 0 6] [(4,.bool ((s.key.valid&&(decide (0≤i)))&&(decide (i<(s.ns.length:Int)))))] fun S=>akI<|dB _ _<|akM S results67 ?_;exact⟨by unfold aN.has; rw[show s.key.ns.length=s.ns.length from al6 ..,am3,Bool.and_comm],S.E⟩
theorem DC{w:World}{s t:aK}(h:bU K w s)(h':bU K w t) :
  Calls prog 19 #[s.v,t.v] w fun e w'=>e = .returned (.bool (s.key=t.key))∧Ext w w':=by
 have hmax:s.ns.length≤9223372036854775807:=h.2.2.1.len;refine akN func19 ntmps19 (fun ac S=>?_);obtain⟨a,cap,es⟩:∃a c,s.s = .slice a s.ns.length c:=⟨_,_,rfl⟩;have hr:=h.2.2.1;rw[es]at hr;obtain⟨d,cap',et⟩:∃a c,t.s = .slice a t.ns.length c:=⟨_,_,rfl⟩;have hr':=h'.2.2.1;rw[et]at hr';refine akJ fun _ aS=>akK S 2 s.cells fun ac u b2 E3 hb4 S=>akK S 3 t.cells fun ac u b5 E6 hb7 S=>adr S 1 [] [(4,.bool false)] fun S=>akI<|aS _ _<|ak6 fun _ dP=>akJ fun _ iq=>adr S 28 [.mem 1 0,.mem 0 0,.mem 1 1,.mem 0 1,.mem 1 2,.mem 0 2,.cmp .neq 23 (.tmp 20) (.tmp 22) (.agg #[.int .u8 (s.bg.r.toNat:Int),.int .u8 (s.bg.g.toNat:Int),.int .u8 (s.bg.b.toNat:Int),.int .u8 (s.bg.a.toNat:Int)]) (.agg #[.int .u8 (t.bg.r.toNat:Int),.int .u8 (t.bg.g.toNat:Int),.int .u8 (t.bg.b.toNat:Int),.int .u8 (t.bg.a.toNat:Int)]) (.bool (!decide (s.bg=t.bg))),.mem 1 6,.re 27 s.s (.slice a s.ns.length cap),.mem 0 6,.re 30 t.s (.slice d t.ns.length cap')] [(33,.bool (((((s.w) != t.w)||((s.h) != t.h))||(!decide (s.bg=t.bg)))||(((s.ns.length:Int)) != (t.ns.length:Int))))] (hk:=⟨(ak2 (fun _=>TY s.bg t.bg _) (by kernel_rfl)),es,et,trivial⟩) fun S=>akI (iq _ _ ?_);refine akL S (fun bV=>?_) (fun bV=>?_)
 ·refine akJ fun _ dn=>adr S 1 [] [(4,.bool false)] fun S=>akI<|dn _ _<|akM S results19 ?_;exact⟨aB (adk bV),S.E⟩
 refine ak7<|dP _ _<|ak6 fun _ cO=>akJ fun _ gu=>adr S 1 [] [(5,.i 0)] fun S=>akI<|gu _ _<|ak8 ?_;refine alC (ι:=Nat) (fun p a' w'=>p≤s.ns.length∧((keys s.ns).take p=(keys t.ns).take p)∧Sx.St w a' w' 53 [(0,s.v),(1,t.v),(2,.pointer (some ⟨b2,0,none⟩)),(3,.pointer (some ⟨b5,0,none⟩)),(4,.bool false),(5,.i p)] [(b5,t.cells),(b2,s.cells)] []) (fun p=>s.ns.length-p) (0) ⟨alg _,rfl,S.sn⟩ ?_;rintro k ac u hI;try dsimp only at hI
 obtain⟨hk,hR,S⟩:=hI;refine ak6 fun _ fH=>akJ fun _ fJ=>adr S 5 [.mem 1 6,.re 36 s.s (.slice a s.ns.length cap)] [(38,.bool ((k:Int)<(s.ns.length:Int)))] (hk:=⟨es,trivial⟩) fun S=>akI (fJ _ _ ?_);refine akL S (fun hc16=>?_) (fun hc16=>?_)
 ·refine ak7<|fH _ _<|ak6 fun _ gJ=>ak8<|ak6 (fun _ jh=>?_);have tX:k<s.ns.length:=by have:=alj hc16; omega
  obtain⟨b20,o21,rfl,KF,hx24,Ir,Rx⟩:=als hr (fun _=>rfl) (k) tX;have S:=S.view0 Ir Rx;have zB:k<t.ns.length:=by have:=MI bV; have:=alj hc16; omega
  obtain⟨b28,o29,rfl,y34,hx32,ZE,ZF⟩:=als hr' (fun _=>rfl) (k) zB;have S:=S.view0 ZE ZF;refine akU S 12 [.mem 1 6,.re 42 s.s (.slice (some ⟨b20,o21,none⟩) s.ns.length cap),.idx k s.ns.length,.mem 3 0,.mem 0 6,.re 47 t.s (.slice (some ⟨b28,o29,none⟩) t.ns.length cap'),.idx k t.ns.length,.mem 2 0] [(_,_,true,.bool (KF.key=y34.key))] [(52,.bool (!(decide (KF.key=y34.key))))] ⟨fun u hC g=>LW ((h.2.2.2 _ (hx24▸aly tX)).below (Ext.trans' S.E hC)) ((h'.2.2.2 _ (hx32▸aly zB)).below (Ext.trans' S.E hC)),trivial⟩ (hk:=⟨es,tX,et,zB,trivial⟩) fun ac u MS S=>akI (jh _ _ ?_);refine akL S (fun zC=>?_) (fun zC=>?_)
  ·refine akJ fun _ oH=>adr S 1 [] [(4,.bool false)] fun S=>akI<|oH _ _<|akM S results19 ?_;exact⟨aB (VW bV (abf tX zB hx24 hx32 zC)),S.E⟩
  refine ak7<|gJ _ _<|alc<|adr S 3 [.re 40 (.i (IntKind.i64.wrap ((k:Int)+1))) (.i (k+1:Nat))] [(5,.i (k+1:Nat))] (hk:=⟨akV (by omega),trivial⟩) fun S=>akI ?_;show ∃i',_∧_;exact⟨(k+1),⟨by omega,(MJ tX zB hR hx24 hx32 zC),S.sn⟩,by show _-_<_-_; omega⟩
 refine alk<|cO _ _<|akJ fun _ iW=>adr S 1 [] [(4,.bool true)] fun S=>akI<|iW _ _<|akM S results19 ?_;exact⟨aB (VW bV (Un (by have:=alo hc16; omega) (MI bV) hR)),S.E⟩
theorem Qb{w:World}{v u:Value}{l m:List aj}(h:jo K w v l)(h':jo K w u m) :
  Calls prog 30 #[v,u] w fun e w'=>e = .returned (.bool (keys l=keys m))∧Ext w w':=by
 obtain⟨a,cap,rfl⟩:=h.1.shape;obtain⟨d,cap',rfl⟩:=h'.1.shape;have hmax:l.length≤9223372036854775807:=h.1.len;refine akN func30 ntmps30 fun ac S=>akJ fun _ aS=>adr S 1 [] [(4,.bool false)] fun S=>akI<|aS _ _<|ak6 fun _ fD=>akJ fun _ iD=>adr S 5 [] [(10,.bool (((l.length:Int)) != (m.length:Int)))] fun S=>akI (iD _ _ ?_);refine akL S (fun hc4=>?_) (fun hc4=>?_)
 ·refine akJ fun _ dB=>adr S 1 [] [(4,.bool false)] fun S=>akI<|dB _ _<|akM S results30 ?_;exact⟨aB (agH (fun e=>by rw[e]at hc4; simp at hc4)),S.E⟩
 refine ak7<|fD _ _<|ak6 fun _ je=>akJ fun _ kJ=>adr S 1 [] [(5,.i 0)] fun S=>akI<|kJ _ _<|ak8 ?_;refine alC (ι:=Nat) (fun p a' w'=>p≤l.length∧((keys l).take p=(keys m).take p)∧Sx.St w a' w' 27 [(0,.slice a l.length cap),(1,.slice d m.length cap'),(4,.bool false),(5,.i p)] [] []) (fun p=>l.length-p) (0) ⟨alg _,rfl,S.sn⟩ ?_;rintro k ac u hI;try dsimp only at hI
 obtain⟨hk,hR,S⟩:=hI;refine ak6 fun _ dP=>akJ fun _ iq=>adr S 4 [] [(14,.bool ((k:Int)<(l.length:Int)))] fun S=>akI (iq _ _ ?_);refine akL S (fun bV=>?_) (fun bV=>?_)
 ·refine ak7<|dP _ _<|ak6 fun _ dn=>ak8<|ak6 (fun _ cO=>?_);have kC:k<l.length:=by have:=alj bV; omega
  obtain⟨b14,o15,rfl,x20,qm,zn,BL⟩:=als h.1 (fun _=>rfl) (k) kC;have S:=S.view0 zn BL;have jP:k<m.length:=by have:=kD hc4; have:=alj bV; omega
  obtain⟨b22,o23,rfl,y28,oN,Aj,EW⟩:=als h'.1 (fun _=>rfl) (k) jP;have S:=S.view0 Aj EW;refine akU S 10 [.idx k l.length,.mem 1 0,.idx k m.length,.mem 0 0] [(_,_,true,.bool (x20.key=y28.key))] [(26,.bool (!(decide (x20.key=y28.key))))] ⟨fun u hC g=>LW ((h.2 _ (qm▸aly kC)).below (Ext.trans' S.E hC)) ((h'.2 _ (oN▸aly jP)).below (Ext.trans' S.E hC)),trivial⟩ (hk:=⟨kC,jP,trivial⟩) fun ac u DN S=>akI (cO _ _ ?_);refine akL S (fun uX=>?_) (fun uX=>?_)
  ·refine akJ fun _ oL=>adr S 1 [] [(4,.bool false)] fun S=>akI<|oL _ _<|akM S results30 ?_;exact⟨aB (abf kC jP qm oN uX),S.E⟩
  refine ak7<|dn _ _<|alc<|adr S 3 [.re 16 (.i (IntKind.i64.wrap ((k:Int)+1))) (.i (k+1:Nat))] [(5,.i (k+1:Nat))] (hk:=⟨akV (by omega),trivial⟩) fun S=>akI ?_;show ∃i',_∧_;exact⟨(k+1),⟨by omega,(MJ kC jP hR qm oN uX),S.sn⟩,by show _-_<_-_; omega⟩
 refine alk<|je _ _<|akJ fun _ kP=>adr S 1 [] [(4,.bool true)] fun S=>akI<|kP _ _<|akM S results30 ?_;exact⟨aB (Un (by have:=alo bV; omega) (kD hc4) hR),S.E⟩
end Go.Proofs.YtfmkkemfhjkajaaGreatDoor
