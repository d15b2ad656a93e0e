/- Walks of the references on integers and rational -/
import Derived.Test.YtfmkkemfhjkajaaGreatDoorPk24
import Derived.Test.YtfmkkemfhjkajaaGreatDoorData
set_option linter.unusedVariables false
namespace Go.Proofs.YtfmkkemfhjkajaaGreatDoor
section
set_option maxHeartbeats 1600000
set_option maxRecDepth 100000
open Go.RowKit
variable{α:Type}
theorem _root_.Go.Sx.ae2{P:Program}{w0 w:World}{a:Act}{n:Nat}{l:List (Nat×Value)}{bl:List (Nat×List Value)}{vs:List Sx.iF}(S:Sx.St w0 a w n l bl vs){fn:Func}{R:Ending→World→Prop}(i j:Nat){r s t b c:Nat}{ty:TypeId}{A B:List Value}{u v x:Value}(hr:fn.results = #[.cell r ty,.cell s ty,.tmp t])(hi:bl[i]?=some (b,A))(hj:bl[j]?=some (c,B))(h:R (.returned (.tuple #[u,v,x])) w)
  (h1:Vp.ev l (.tmp r)=some (.pointer (some ⟨b,0,none⟩)):=by kernel_rfl) (h2:Vp.ev l (.tmp s)=some (.pointer (some ⟨c,0,none⟩)):=by kernel_rfl) (h3:Vp.ev l (.tmp t)=some x:=by kernel_rfl) (l1:Sx.Vz P ty A=some u:=by kernel_rfl) (l2:Sx.Vz P ty B=some v:=by kernel_rfl):bodyPost P fn R .ret a w:=by
 refine⟨S.s.defers,_,?_,h⟩;have e1:=S.s.ev h1;have e2:=S.s.ev h2;have e3:=S.s.ev h3;unfold results;rw[hr];simp only[Act.eval,Array.getD_eq_getD_getElem?]at e1 e2 e3;simp[e1,e2,e3,asAddr,S.var hi l1,S.var hj l2]
theorem PL{s:Value}{m:List UInt32}{w:World}(h:aC w s m)(hm:0<Na.val m)(hl:m.length≤100000000) :
  Calls Tryz.prog 186 #[.agg #[.bool false,s]] w fun e w'=>e = .returned (.i 1)∧Ext w w':=by
 have hc:=qF false _ m w h hl;rw[show sZ false (Na.val m)=1 from by unfold sZ; rw[if_neg (by omega)]; rfl]at hc;exact hc
theorem LK{b:Bool}{s:Value}{w:World}(h:aC w s (Na.au 0)) :
  Calls Tryz.prog 186 #[.agg #[.bool b,s]] w fun e w'=>e = .returned (.i 0)∧Ext w w':=by
 have hc:=qF b _ _ w h (by simp[Na.ni]);rw[Na.aJ,show sZ b 0=0 from rfl]at hc;exact hc
theorem mX{base:Nat}{w:World}{b neg:Bool}{s:Value}{n:Nat}(h:aG base w (.agg #[.bool b,s]) neg n):aC w s (Na.au n):=by
 obtain⟨t,e,hs,_⟩:=h;simp only[Value.agg.injEq,Array.mk.injEq,List.cons.injEq,and_true]at e;obtain⟨-,rfl⟩:=e;exact hs
theorem aG.flag{base:Nat}{w:World}{v:Value}{n n':Bool}{a:Nat}(h:aG base w v n a)(e:n=n'):aG base w v n' a:=e▸h
theorem PN{base:Nat}{w:World}{b c n1 n2 neg:Bool}{s t:Value}{x y:Nat}(h:aG base w (.agg #[.bool b,s]) n1 x)(k:aG base w (.agg #[.bool c,t]) n2 y)(e1:n1=neg)(e2:n2=false):aA base w (.agg #[.bool b,s,.bool c,t]) neg x y:=by
 obtain⟨s',e,hs,fs⟩:=h;obtain⟨t',e',ht,ft⟩:=k;simp only[Value.agg.injEq,Array.mk.injEq,List.cons.injEq,Value.bool.injEq,and_true]at e e';obtain⟨rfl,rfl⟩:=e;obtain⟨rfl,rfl⟩:=e';exact⟨_,_,by rw[e1,e2],hs,ht,fs,ft⟩
theorem aaQ{n:Bool}{b:Nat}(hb:0<b):decide (sZ n b<0)=n:=by
 unfold sZ;rw[if_neg (by omega)];cases n<;>simp
theorem PO(n1 n2:Bool)(a b:Nat)(hb:0<b):nM n1 n2 a b=((if n2 then !n1&&decide (0<a)else n1)&&decide (0<a/Nat.gcd a b)):=by
 unfold nM;rcases Nat.eq_zero_or_pos a with h | h
 ·subst h; simp
 congr 1;unfold sZ;rw[if_neg (show ¬a=0 by omega),if_neg (show ¬b=0 by omega)];cases n1<;>cases n2<;>simp[h]
theorem lK(n1:Bool)(s t:Value)(l m:List UInt32)(w:World)(h1:aC w s l)(h2:aC w t m)(hm:0<Na.val m)(hdvd:Na.val l%Na.val m=0)(hl1:l.length≤5000000)(hl2:m.length≤5000000) :
  Calls Tryz.prog 220 #[.agg #[.bool n1,s],.agg #[.bool false,t]] w fun e w'=>∃x y,e = .returned (.tuple #[x,y,.i 0]) ∧
   aG w.heap.size w' x (n1&&decide (0<Na.val l/Na.val m)) (Na.val l/Na.val m)∧aG w.heap.size w' y false 0∧Ext w w':=by
 obtain⟨a1,c1,rfl⟩:=h1.shape;obtain⟨a2,c2,rfl⟩:=h2.shape;refine akk Tryz.func220 Tryz.ntmps220 fun ac S=>akg fun _ aP=>akh S 2 [.bool n1,.slice a1 l.length c1] fun ac u b2 E3 hb4 S=>akh S 3 [.bool false,.slice a2 m.length c2] fun ac u b5 E6 hb7 S=>akh S 4 [.bool false,.slice none 0 0] fun ac u b8 E9 vS S=>akh S 5 [.bool false,.slice none 0 0] fun ac u b11 EK ach S=>adr S 1 [] [(6,.i 0)] fun S=>akf<|aP _ _<|wp_seq_k fun _ fC=>akg fun _ fP=>adr S 1 [.mem 2 0] [(12,.agg #[.bool false,.slice a2 m.length c2])] fun S=>akn S 13 (PL (h2.below S.E) hm (by omega)) fun ac u Nv S=>adr S 1 [] [(14,.bool false)] fun S=>akf<|fP _ _<|akz S<|wp_skip<|fC _ _<|akg fun _ gI=>adr S 4 [.mem 3 1,.mem 2 1] [(19,.slice a1 l.length c1),(21,.slice a2 m.length c2)] fun S=>ako S (some 22) (zF _ _ l m _ (h1.below S.E) (h2.below S.E) hm (by omega) (by omega)) ?_;rintro e u ⟨q,r,rfl,hq,hr,DL⟩;have hq:aC _ _ _:=bf hq;have hr:aC _ _ _:=bf hr;rw[hdvd]at hr;obtain⟨aq,cq,rfl⟩:=hq.shape;obtain⟨ar,cr,rfl⟩:=hr.shape;refine⟨_,rfl,DL,fun ac S=>?_⟩;refine adr S 7 [] [(7,.slice aq (Na.au (Na.val l/Na.val m)).length cq),(8,.slice ar (Na.au 0).length cr)] fun S=>akf<|gI _ _<|akg fun _ jI=>adr S 6 [.mem 3 0,.mem 2 0] [(30,.bool (!(n1==false))),(31,.slice aq (Na.au (Na.val l/Na.val m)).length cq)] fun S=>ako S (some 32) (kD (!(n1==false)) hq (by have:=fQ (Nat.div_le_self (Na.val l) (Na.val m)); have:=bF l; omega)) ?_;rintro e u ⟨x,rfl,fx,Ez⟩;obtain⟨VK,VN,rfl⟩:=fx.shape;have agv:=S.E.size;refine⟨_,rfl,Ez,fun ac S=>?_⟩;refine akh S 10 [.bool false,.slice none 0 0] fun ac u b21 QX NK S=>akl S 0 (off:=0) (cs:=[.bool ((!(n1==false))&&decide (0<(Na.val l/Na.val m))),.slice VK (Na.au (Na.val l/Na.val m)).length VN]) rfl (fun u Nu S=>?_);have SK:=akp (Ext.trans' Ez QX) Nu (by have:=Ez.size; omega);have UW:=akp (Ext.trans' Ez QX) Nu (by have:=Ez.size; omega);have E27:=akp QX Nu (by omega);refine akf<|jI _ _<|akg fun _ jh=>adr S 3 [.mem 4 0] [(34,.bool n1),(35,.slice ar (Na.au 0).length cr)] fun S=>ako S (some 36) (kD n1 (hr.below UW) (by simp[Na.ni])) ?_;rintro e u ⟨x,rfl,fy,Bf⟩;obtain⟨TM,TN,rfl⟩:=fy.shape;have agw:=S.E.size;refine⟨_,rfl,Bf,fun ac S=>?_⟩;refine akh S 11 [.bool false,.slice none 0 0] fun ac u b30 AY Pq S=>akl S 0 (off:=0) (cs:=[.bool (n1&&decide (0<0)),.slice TM (Na.au 0).length TN]) rfl (fun u Nw S=>?_);have QO:=akp (Ext.trans' SK (Ext.trans' Bf AY)) Nw (by have:=(Ext.trans' SK Bf).size; omega);have Jr:=akp (Ext.trans' UW (Ext.trans' Bf AY)) Nw (by have:=(Ext.trans' UW Bf).size; omega);have QJ:=akp (Ext.trans' E27 (Ext.trans' Bf AY)) Nw (by have:=(Ext.trans' E27 Bf).size; omega);have IX:=akp AY Nw (by omega);refine akf<|jh _ _<|wp_seq_k fun _ jC=>akg fun _ xg=>aku S 10 [.mem 5 0,.mem 4 0,.mem 0 0] [(_,_,(!(n1==false)),.i 0)] [(46,.bool ((!(n1==false))&&false))] ⟨fun u hC g=>LK (b:=n1&&decide (0<0)) (mX (fy.ext (Ext.trans' IX hC))),trivial⟩ fun ac u KU S=>akf (xg _ _ ?_);refine aki S (fun Ja=>?_) (fun Ja=>?_)
 ·simp at Ja
 refine wp_skip<|jC _ _<|wp_seq_k (fun _ qL=>?_);have X44:=S.bx 3;refine Sx.agu S 2 0 [.mem 1 0,.mem 0 0] [(54,.agg #[.bool (n1&&decide (0<0)),.slice TM (Na.au 0).length TN])] 3 (off:=0) (cs:=[.bool ((!(n1==false))&&decide (0<(Na.val l/Na.val m))),.slice VK (Na.au (Na.val l/Na.val m)).length VN]) rfl (fun ac u YX S=>?_);have WI:=rM (hq.below (Ext.trans' QO KU)) YX X44 rfl;have acf:=rM (hr.below (Ext.trans' Jr KU)) YX X44 rfl;have aeb:=aG.bD (fx.ext (Ext.trans' QJ KU)) YX X44;have WL:=aG.bD (fy.ext (Ext.trans' IX KU)) YX X44;have X50:=S.bx 2;refine akl S 2 (off:=0) (cs:=[.bool (n1&&decide (0<0)),.slice TM (Na.au 0).length TN]) rfl (fun u C49 S=>?_);have Ey:=rM WI C49 X50 rfl;have NU:=rM acf C49 X50 rfl;have Rn:=aG.bD aeb C49 X50;have aiz:=aG.bD WL C49 X50;refine adr S 1 [] [(6,.i 0)] fun S=>akf<|qL _ _<|Vp.rt ?_;refine Sx.ae2 S 3 2 Tryz.results220 rfl rfl ⟨_,_,rfl,(aG.mono Rn (by omega)).flag (by simp),(aG.mono aiz (by omega)).flag (by simp),S.E⟩
theorem zH(n1 n2:Bool)(s1 s2:Value)(l m:List UInt32)(w:World)(h1:aC w s1 l)(h2:aC w s2 m)(hm:0<Na.val m)(hl1:l.length≤5000000)(hl2:m.length≤5000000) :
  Calls Tryz.prog 187 #[.agg #[.bool n1,s1],.agg #[.bool n2,s2]] w fun e w'=>∃x,e = .returned x ∧
   aA w.heap.size w' x (nM n1 n2 (Na.val l) (Na.val m)) (Na.val l/Nat.gcd (Na.val l) (Na.val m)) (Na.val m/Nat.gcd (Na.val l) (Na.val m))∧Ext w w':=by
 obtain⟨a1,c1,rfl⟩:=h1.shape;obtain⟨a2,c2,rfl⟩:=h2.shape;have hG:0<(Nat.gcd (Na.val l) (Na.val m)):=Nat.gcd_pos_of_pos_right _ hm;have hGl:(Na.au (Nat.gcd (Na.val l) (Na.val m))).length≤5000000:=by have:=fQ (Nat.le_of_dvd hm (Nat.gcd_dvd_right (Na.val l) (Na.val m))); have:=bF m; omega
 refine akk Tryz.func187 Tryz.ntmps187 fun ac S=>akg fun _ aP=>akh S 2 [.bool n1,.slice a1 l.length c1] fun ac u b2 E3 hb4 S=>akh S 3 [.bool n2,.slice a2 m.length c2] fun ac u b5 E6 hb7 S=>akh S 4 Sx.zr fun ac u b8 E9 vS S=>akf<|aP _ _<|akg fun _ dn=>adr S 4 [.mem 2 1,.mem 1 1] [(13,.slice a1 l.length c1),(15,.slice a2 m.length c2)] fun S=>ako S (some 16) (TJ _ _ l m _ (h1.below S.E) (h2.below S.E) hl1 hl2) ?_;rintro e u ⟨g,rfl,hg,EK⟩;obtain⟨ag,cg,rfl⟩:=hg.shape;refine⟨_,rfl,EK,fun ac S=>?_⟩;refine ako S (some 17) (kD false hg (by omega)) ?_;rintro e u ⟨x,rfl,fg,Et⟩;obtain⟨bg,dg,rfl⟩:=fg.shape;refine⟨_,rfl,Et,fun ac S=>?_⟩;refine akh S 5 [.bool false,.slice none 0 0] fun ac u b14 QM hb16 S=>akl S 0 (off:=0) (cs:=[.bool false,.slice bg (Na.au (Nat.gcd (Na.val l) (Na.val m))).length dg]) rfl (fun u C17 S=>?_);have DL:=akp QM C17 (by omega);refine akf<|dn _ _<|wp_seq_k fun _ jI=>akg fun _ iT=>adr S 1 [.mem 2 0] [(18,.agg #[.bool n2,.slice a2 m.length c2])] fun S=>akn S 19 (qF n2 _ m _ (h2.below S.E) (by omega)) fun ac u zo S=>adr S 1 [] [(20,.bool ((sZ n2 (Na.val m))<0))] fun S=>akf (iT _ _ ?_);refine aki S (fun hc22=>?_) (fun hc22=>?_)
 ·have hn:n2=true:=(aaQ hm).symm.trans hc22;refine akg fun _ jU=>adr S 1 [.mem 3 0] [(21,.agg #[.bool n1,.slice a1 l.length c1])] fun S=>ako S (some 22) (GY n1 _ l _ (h1.below S.E) (by omega)) ?_;rintro e u ⟨x,rfl,nx,Nz⟩;obtain⟨bnx,dnx,rfl⟩:=nx.shape;refine⟨_,rfl,Nz,fun ac S=>?_⟩;have X26:=S.bx 3;refine akl S 3 (off:=0) (cs:=[.bool (!n1&&decide (0<Na.val l)),.slice bnx (Na.au (Na.val l)).length dnx]) rfl (fun u C25 S=>?_);have KT:=aG.bD (fg.ext (Ext.trans' DL (Ext.trans' zo Nz))) C25 X26;have Rh:=aG.bD nx C25 X26;refine akf<|jU _ _<|Vp.region<|adr S 1 [.mem 2 0] [(23,.agg #[.bool n2,.slice a2 m.length c2])] fun S=>ako S (some 24) (GY n2 _ m _ (h2.below S.E) (by omega)) ?_;rintro e u ⟨x,rfl,ny,Bf⟩;obtain⟨bny,dny,rfl⟩:=ny.shape;refine⟨_,rfl,Bf,fun ac S=>?_⟩;have X31:=S.bx 2;refine akl S 2 (off:=0) (cs:=[.bool (!n2&&decide (0<Na.val m)),.slice bny (Na.au (Na.val m)).length dny]) rfl (fun u C30 S=>?_);have Rx:=aG.bD (KT.ext Bf) C30 X31;have CW:=aG.bD (Rh.ext Bf) C30 X31;have Ry:=aG.bD ny C30 X31;refine akf<|jI _ _<|akg fun _ oh=>adr S 2 [.mem 3 0,.mem 0 0] [(26,.agg #[.bool (!n1&&decide (0<Na.val l)),.slice bnx (Na.au (Na.val l)).length dnx]),(27,.agg #[.bool false,.slice bg (Na.au (Nat.gcd (Na.val l) (Na.val m))).length dg])] fun S=>ako S (some 28) (lK (!n1&&decide (0<Na.val l)) _ _ (Na.au (Na.val l)) (Na.au (Nat.gcd (Na.val l) (Na.val m))) _ (mX CW) (mX Rx) (by rw[Na.aJ]; exact hG) (by simp only[Na.aJ]; exact Nat.mod_eq_zero_of_dvd (Nat.gcd_dvd_left _ _)) (Nat.le_trans (bF l) hl1) hGl) ?_;rintro e u ⟨x,y,rfl,fx,rfx,QJ⟩;simp only[Na.aJ]at fx;obtain⟨VK,VN,rfl⟩:=fx.shape;obtain⟨aaR,aaS,rfl⟩:=rfx.shape;have agv:=S.E.size;refine⟨_,rfl,QJ,fun ac S=>?_⟩;refine adr S 4 [] [(29,.agg #[.bool ((!n1&&decide (0<Na.val l))&&decide (0<(Na.val l/(Nat.gcd (Na.val l) (Na.val m))))),.slice VK (Na.au (Na.val l/(Nat.gcd (Na.val l) (Na.val m)))).length VN]),(30,.agg #[.bool false,.slice aaR (Na.au 0).length aaS]),(31,.i 0)] fun S=>akh S 6 [.bool false,.slice none 0 0] fun ac u b37 XY aaT S=>akh S 7 [.bool false,.slice none 0 0] fun ac u b40 E41 aax S=>akl S 1 (off:=0) (cs:=[.bool ((!n1&&decide (0<Na.val l))&&decide (0<(Na.val l/(Nat.gcd (Na.val l) (Na.val m))))),.slice VK (Na.au (Na.val l/(Nat.gcd (Na.val l) (Na.val m)))).length VN]) rfl (fun u YX S=>?_);have YW:=akp (Ext.trans' QJ (Ext.trans' XY E41)) YX (by have:=QJ.size; omega);have E45:=akp (Ext.trans' QJ (Ext.trans' XY E41)) YX (by have:=QJ.size; omega);have WQ:=akp (Ext.trans' XY E41) YX (by omega);have X48:=S.bx 0;refine akl S 0 (off:=0) (cs:=[.bool false,.slice aaR (Na.au 0).length aaS]) rfl (fun u WS S=>?_);have NT:=aG.bD (Rx.ext YW) WS X48;have Rk:=aG.bD (Ry.ext E45) WS X48;have Ey:=aG.bD (fx.ext WQ) WS X48;refine adr S 1 [] [] fun S=>akf<|oh _ _<|akg fun _ Fa=>adr S 2 [.mem 4 0,.mem 2 0] [(33,.agg #[.bool (!n2&&decide (0<Na.val m)),.slice bny (Na.au (Na.val m)).length dny]),(34,.agg #[.bool false,.slice bg (Na.au (Nat.gcd (Na.val l) (Na.val m))).length dg])] fun S=>ako S (some 35) (lK (!n2&&decide (0<Na.val m)) _ _ (Na.au (Na.val m)) (Na.au (Nat.gcd (Na.val l) (Na.val m))) _ (mX Rk) (mX NT) (by rw[Na.aJ]; exact hG) (by simp only[Na.aJ]; exact Nat.mod_eq_zero_of_dvd (Nat.gcd_dvd_right _ _)) (Nat.le_trans (bF m) hl2) hGl) ?_;rintro e u ⟨x,y,rfl,fy,rfy,E53⟩;simp only[Na.aJ]at fy;obtain⟨TM,TN,rfl⟩:=fy.shape;obtain⟨aaU,aaV,rfl⟩:=rfy.shape;have agw:=S.E.size;refine⟨_,rfl,E53,fun ac S=>?_⟩;refine adr S 4 [] [(36,.agg #[.bool ((!n2&&decide (0<Na.val m))&&decide (0<(Na.val m/(Nat.gcd (Na.val l) (Na.val m))))),.slice TM (Na.au (Na.val m/(Nat.gcd (Na.val l) (Na.val m)))).length TN]),(37,.agg #[.bool false,.slice aaU (Na.au 0).length aaV]),(38,.i 0)] fun S=>akh S 9 [.bool false,.slice none 0 0] fun ac u b54 RG Zr S=>akh S 10 [.bool false,.slice none 0 0] fun ac u b57 E58 ajZ S=>akl S 1 (off:=0) (cs:=[.bool ((!n2&&decide (0<Na.val m))&&decide (0<(Na.val m/(Nat.gcd (Na.val l) (Na.val m))))),.slice TM (Na.au (Na.val m/(Nat.gcd (Na.val l) (Na.val m)))).length TN]) rfl (fun u Ns S=>?_);have E61:=akp (Ext.trans' E53 (Ext.trans' RG E58)) Ns (by have:=E53.size; omega);have E62:=akp (Ext.trans' RG E58) Ns (by omega);have X64:=S.bx 0;refine akl S 0 (off:=0) (cs:=[.bool false,.slice aaU (Na.au 0).length aaV]) rfl (fun u C63 S=>?_);have Zh:=aG.bD (Ey.ext E61) C63 X64;have Zi:=aG.bD (fy.ext E62) C63 X64;refine adr S 1 [] [] fun S=>akf<|Fa _ _<|akg fun _ KH=>adr S 3 [.mem 3 0,.mem 1 0] [(41,.agg #[.bool ((!n1&&decide (0<Na.val l))&&decide (0<(Na.val l/(Nat.gcd (Na.val l) (Na.val m))))),.slice VK (Na.au (Na.val l/(Nat.gcd (Na.val l) (Na.val m)))).length VN,.bool ((!n2&&decide (0<Na.val m))&&decide (0<(Na.val m/(Nat.gcd (Na.val l) (Na.val m))))),.slice TM (Na.au (Na.val m/(Nat.gcd (Na.val l) (Na.val m)))).length TN])] (fun S=>?_);have X69:=S.bx 5;refine akl S 5 (off:=0) (cs:=[.bool ((!n1&&decide (0<Na.val l))&&decide (0<(Na.val l/(Nat.gcd (Na.val l) (Na.val m))))),.slice VK (Na.au (Na.val l/(Nat.gcd (Na.val l) (Na.val m)))).length VN,.bool ((!n2&&decide (0<Na.val m))&&decide (0<(Na.val m/(Nat.gcd (Na.val l) (Na.val m))))),.slice TM (Na.au (Na.val m/(Nat.gcd (Na.val l) (Na.val m)))).length TN]) rfl (fun u C68 S=>?_);have aeL:=aG.bD Zh C68 X69;have aiA:=aG.bD Zi C68 X69;refine akf<|KH _ _<|akt S 5 Tryz.results187 rfl (v := .agg #[.bool ((!n1&&decide (0<Na.val l))&&decide (0<(Na.val l/(Nat.gcd (Na.val l) (Na.val m))))),.slice VK (Na.au (Na.val l/(Nat.gcd (Na.val l) (Na.val m)))).length VN,.bool ((!n2&&decide (0<Na.val m))&&decide (0<(Na.val m/(Nat.gcd (Na.val l) (Na.val m))))),.slice TM (Na.au (Na.val m/(Nat.gcd (Na.val l) (Na.val m)))).length TN]) ?_;exact⟨_,rfl,PN (aG.mono aeL (by omega)) (aG.mono aiA (by omega)) (by rw[PO _ _ _ _ hm,hn]; rfl) (by rw[hn]; rfl),S.E⟩
 have hn:n2=false:=(aaQ hm).symm.trans hc22;refine wp_skip<|jI _ _<|akg fun _ TB=>adr S 2 [.mem 3 0,.mem 0 0] [(26,.agg #[.bool n1,.slice a1 l.length c1]),(27,.agg #[.bool false,.slice bg (Na.au (Nat.gcd (Na.val l) (Na.val m))).length dg])] fun S=>ako S (some 28) (lK n1 _ _ l (Na.au (Nat.gcd (Na.val l) (Na.val m))) _ (h1.below S.E) (mX (fg.ext (Ext.trans' DL zo))) (by rw[Na.aJ]; exact hG) (by simp only[Na.aJ]; exact Nat.mod_eq_zero_of_dvd (Nat.gcd_dvd_left _ _)) hl1 hGl) ?_;rintro e u ⟨x,y,rfl,fx,rfx,E73⟩;simp only[Na.aJ]at fx;obtain⟨VK,VN,rfl⟩:=fx.shape;obtain⟨aaR,aaS,rfl⟩:=rfx.shape;have agv:=S.E.size;refine⟨_,rfl,E73,fun ac S=>?_⟩;refine adr S 4 [] [(29,.agg #[.bool (n1&&decide (0<(Na.val l/(Nat.gcd (Na.val l) (Na.val m))))),.slice VK (Na.au (Na.val l/(Nat.gcd (Na.val l) (Na.val m)))).length VN]),(30,.agg #[.bool false,.slice aaR (Na.au 0).length aaS]),(31,.i 0)] fun S=>akh S 6 [.bool false,.slice none 0 0] fun ac u b74 E75 aj0 S=>akh S 7 [.bool false,.slice none 0 0] fun ac u b77 E78 aik S=>akl S 1 (off:=0) (cs:=[.bool (n1&&decide (0<(Na.val l/(Nat.gcd (Na.val l) (Na.val m))))),.slice VK (Na.au (Na.val l/(Nat.gcd (Na.val l) (Na.val m)))).length VN]) rfl (fun u C80 S=>?_);have E81:=akp (Ext.trans' DL (Ext.trans' zo (Ext.trans' E73 (Ext.trans' E75 E78)))) C80 (by have:=(Ext.trans' DL (Ext.trans' zo E73)).size; omega);have E82:=akp (Ext.trans' E75 E78) C80 (by omega);have X84:=S.bx 0;refine akl S 0 (off:=0) (cs:=[.bool false,.slice aaR (Na.au 0).length aaS]) rfl (fun u C83 S=>?_);have Zt:=aG.bD (fg.ext E81) C83 X84;have Rt:=aG.bD (fx.ext E82) C83 X84;refine adr S 1 [] [] fun S=>akf<|TB _ _<|akg fun _ agr=>adr S 2 [.mem 4 0,.mem 2 0] [(33,.agg #[.bool n2,.slice a2 m.length c2]),(34,.agg #[.bool false,.slice bg (Na.au (Nat.gcd (Na.val l) (Na.val m))).length dg])] fun S=>ako S (some 35) (lK n2 _ _ m (Na.au (Nat.gcd (Na.val l) (Na.val m))) _ (h2.below S.E) (mX Zt) (by rw[Na.aJ]; exact hG) (by simp only[Na.aJ]; exact Nat.mod_eq_zero_of_dvd (Nat.gcd_dvd_right _ _)) hl2 hGl) ?_;rintro e u ⟨x,y,rfl,fy,rfy,E88⟩;simp only[Na.aJ]at fy;obtain⟨TM,TN,rfl⟩:=fy.shape;obtain⟨aaU,aaV,rfl⟩:=rfy.shape;have agw:=S.E.size;refine⟨_,rfl,E88,fun ac S=>?_⟩;refine adr S 4 [] [(36,.agg #[.bool (n2&&decide (0<(Na.val m/(Nat.gcd (Na.val l) (Na.val m))))),.slice TM (Na.au (Na.val m/(Nat.gcd (Na.val l) (Na.val m)))).length TN]),(37,.agg #[.bool false,.slice aaU (Na.au 0).length aaV]),(38,.i 0)] fun S=>akh S 9 [.bool false,.slice none 0 0] fun ac u b89 E90 aj1 S=>akh S 10 [.bool false,.slice none 0 0] fun ac u b92 E93 aj2 S=>akl S 1 (off:=0) (cs:=[.bool (n2&&decide (0<(Na.val m/(Nat.gcd (Na.val l) (Na.val m))))),.slice TM (Na.au (Na.val m/(Nat.gcd (Na.val l) (Na.val m)))).length TN]) rfl (fun u C95 S=>?_);have E96:=akp (Ext.trans' E88 (Ext.trans' E90 E93)) C95 (by have:=E88.size; omega);have E97:=akp (Ext.trans' E90 E93) C95 (by omega);have X99:=S.bx 0;refine akl S 0 (off:=0) (cs:=[.bool false,.slice aaU (Na.au 0).length aaV]) rfl (fun u C98 S=>?_);have agx:=aG.bD (Rt.ext E96) C98 X99;have agy:=aG.bD (fy.ext E97) C98 X99;refine adr S 1 [] [] fun S=>akf<|agr _ _<|akg fun _ agz=>adr S 3 [.mem 3 0,.mem 1 0] [(41,.agg #[.bool (n1&&decide (0<(Na.val l/(Nat.gcd (Na.val l) (Na.val m))))),.slice VK (Na.au (Na.val l/(Nat.gcd (Na.val l) (Na.val m)))).length VN,.bool (n2&&decide (0<(Na.val m/(Nat.gcd (Na.val l) (Na.val m))))),.slice TM (Na.au (Na.val m/(Nat.gcd (Na.val l) (Na.val m)))).length TN])] (fun S=>?_);have agA:=S.bx 5;refine akl S 5 (off:=0) (cs:=[.bool (n1&&decide (0<(Na.val l/(Nat.gcd (Na.val l) (Na.val m))))),.slice VK (Na.au (Na.val l/(Nat.gcd (Na.val l) (Na.val m)))).length VN,.bool (n2&&decide (0<(Na.val m/(Nat.gcd (Na.val l) (Na.val m))))),.slice TM (Na.au (Na.val m/(Nat.gcd (Na.val l) (Na.val m)))).length TN]) rfl (fun u aaL S=>?_);have aaE:=aG.bD agx aaL agA;have aaF:=aG.bD agy aaL agA;refine akf<|agz _ _<|akt S 5 Tryz.results187 rfl (v := .agg #[.bool (n1&&decide (0<(Na.val l/(Nat.gcd (Na.val l) (Na.val m))))),.slice VK (Na.au (Na.val l/(Nat.gcd (Na.val l) (Na.val m)))).length VN,.bool (n2&&decide (0<(Na.val m/(Nat.gcd (Na.val l) (Na.val m))))),.slice TM (Na.au (Na.val m/(Nat.gcd (Na.val l) (Na.val m)))).length TN]) ?_;exact⟨_,rfl,PN (aG.mono aaE (by omega)) (aG.mono aaF (by omega)) (by rw[PO _ _ _ _ hm,hn]; rfl) (by rw[hn]; rfl),S.E⟩
end
section
set_option maxHeartbeats 1600000
set_option maxRecDepth 100000
open Go.RowKit
variable{α:Type}
theorem G8{w w1:World}{A:Array Value}{ta tb:TypeId}{x0 x1 x2 x3:Value}(hb:Ext ((w.alloc (.cells A ta)).alloc (.cells #[x0,x1,x2,x3] tb)) w1) :
  (∀i,w1.cell? ⟨w.heap.size,i,none⟩=A[i]?)∧(∀i,w1.cell? ⟨w.heap.size+1,i,none⟩ = #[x0,x1,x2,x3][i]?)∧(∀i,w1.frozen? ⟨w.heap.size+1,i,none⟩=false)∧w.heap.size+1<w1.heap.size:=by
 refine⟨fun i=>?_,fun i=>?_,fun i=>?_,by have:=hb.size; simp at this; omega⟩
 ·rw[hb.cell (p:=⟨w.heap.size,i,none⟩) (by simp; omega)]; simp[go_sem]
 ·rw[hb.cell (p:=⟨w.heap.size+1,i,none⟩) (by simp)]; simp[go_sem]
 rw[hb.frozen (p:=⟨w.heap.size+1,i,none⟩) (by simp)]; simp[go_sem]
theorem zq(n1 n2:Bool)(s1 s2:Value)(l m:List UInt32)(w:World)(h1:aC w s1 l)(h2:aC w s2 m)(hl1:l.length≤5000000)(hl2:m.length≤5000000) :
  Calls Tryz.prog 147 #[.agg #[.bool n1,s1,.bool n2,s2]] w fun e w'=>∃x,e = .returned x∧bI w.heap.size w' x (nrm n1 n2 (Na.val l) (Na.val m))∧Ext w w':=by
 obtain⟨a1,c1,rfl⟩:=h1.shape;obtain⟨a2,c2,rfl⟩:=h2.shape;have hb0:=(aT w (.cells #[.bool n1,.slice a1 l.length c1,.bool n2,.slice a2 m.length c2] 31)).alloc (by simp) (.cells #[.bool false,.slice none 0 0,.bool false,.slice none 0 0] 31);have hS:=qF n2 _ m _ (h2.below hb0) (by omega);have H:=Lib.hid (And.intro h1 h2);have HB0:=Lib.hid hb0;rcases Nat.eq_zero_or_pos (Na.val m)with hm | hm
 ·have hN:nrm n1 n2 (Na.val l) (Na.val m)=(false,0,1):=by unfold nrm; rw[if_pos hm]
  rw[hN];rw[hm,show sZ n2 0=0 from rfl]at hS;have HS:=Lib.hid hS;clear h1 h2 hb0 hm hN hS;go_enter Tryz.func147,Tryz.ntmps147
  go_wp2_with fail
  refine HS.out.mono ?_;rintro e w1 ⟨rfl,hb⟩;have HX:=Lib.hid (Ext.trans' HB0.out hb);have HY:=Lib.hid (oI 0 w1 (by decide));have HBB:=Lib.hid hb;clear hb HS;go_wp2_with fail
  refine HY.out.mono ?_;rintro e w2 ⟨x,rfl,hx,hb2⟩;obtain⟨b1,d1,b2,d2,rfl⟩:=hx.shape;obtain⟨-,r1,f1,hz⟩:=G8 (Ext.trans' HBB.out hb2);obtain⟨-,-,-,hz1⟩:=G8 HBB.out;have F:=Lib.hid hx;have HX2:=Lib.hid (Ext.trans' HX.out hb2);clear hx hb2 HY;go_wp2_with fail
  refine bodyPost_ret (v := .agg #[.bool false,.slice b1 (Na.au 0).length d1,.bool false,.slice b2 (Na.au 1).length d2]) (by simp[results,Tryz.results147,go_sem,r1]) rfl ⟨_,rfl,?_,wJ HX2.out (by omega) _ _ _ _⟩;exact(F.out.LM hz1 _ _ _ _).mono (by omega)
 have hN:nrm n1 n2 (Na.val l) (Na.val m)=(nM n1 n2 (Na.val l) (Na.val m),Na.val l/Nat.gcd (Na.val l) (Na.val m),Na.val m/Nat.gcd (Na.val l) (Na.val m)):=by unfold nrm; rw[if_neg (by omega)]
 obtain⟨⟨NG,X,Y⟩,hr⟩:∃r,nrm n1 n2 (Na.val l) (Na.val m)=r:=⟨_,rfl⟩;rw[hr];rw[hN]at hr;obtain⟨e1,hr⟩:=Prod.mk.inj hr;obtain⟨e2,e3⟩:=Prod.mk.inj hr;have E:=Lib.hid (And.intro e1 (And.intro e2 e3));clear e1 e2 e3 hr hN;have hs0:(sZ n2 (Na.val m)==0)=false:=by
  rw[beq_eq_false_iff_ne]; unfold sZ; rw[if_neg (by omega)]; cases n2<;>simp
 have HM:=Lib.hid hm;have HS:=Lib.hid hS;clear h1 h2 hb0 hm hS;go_enter Tryz.func147,Tryz.ntmps147
 go_wp2_with fail
 refine HS.out.mono ?_;rintro e w1 ⟨rfl,hb⟩;have hX:=Ext.trans' HB0.out hb;have HX:=Lib.hid hX;have hY:=zH n1 n2 _ _ l m w1 (H.out.1.below hX) (H.out.2.below hX) HM.out hl1 hl2;rw[E.out.1,E.out.2.1,E.out.2.2]at hY;have HY:=Lib.hid hY;clear hY;have HBB:=Lib.hid hb;obtain⟨k0,-,-,-⟩:=G8 hb;clear hb HS hX;go_wp2_with fail
 refine HY.out.mono ?_;rintro e w2 ⟨x,rfl,hx,hb2⟩;obtain⟨b1,d1,b2,d2,rfl⟩:=hx.shape;obtain⟨-,r1,f1,hz⟩:=G8 (Ext.trans' HBB.out hb2);obtain⟨-,-,-,hz1⟩:=G8 HBB.out;have F:=Lib.hid hx;have HX2:=Lib.hid (Ext.trans' HX.out hb2);clear hx hb2 HY k0;go_wp2_with fail
 refine bodyPost_ret (v := .agg #[.bool NG,.slice b1 (Na.au X).length d1,.bool false,.slice b2 (Na.au Y).length d2]) (by simp[results,Tryz.results147,go_sem,r1]) rfl ⟨_,rfl,?_,wJ HX2.out (by omega) _ _ _ _⟩;exact(F.out.LM hz1 _ _ _ _).mono (show w.heap.size≤w1.heap.size by omega)
theorem D5(n1 n2:Bool)(s1 s2:Value)(l m:List UInt32)(w:World)(h1:aC w s1 l)(h2:aC w s2 m) :
  Calls Tryz.prog 217 #[.agg #[.bool n1,s1],.agg #[.bool n2,s2]] w fun e w'=>e = .returned (.bool (n1==n2&&l==m))∧Ext w w':=by
 obtain⟨a1,c1,rfl⟩:=h1.shape;obtain⟨a2,c2,rfl⟩:=h2.shape;have hl1:=h1.len;have hl2:=h2.len;unfold maxLen at hl1 hl2;have HB0:=Lib.hid ((aT w (.cells #[.bool n1,.slice a1 l.length c1] 29)).alloc (by simp) (.cells #[.bool n2,.slice a2 m.length c2] 29));have H1:=Lib.hid h1;have H2:=Lib.hid h2;clear h1 h2;by_cases hn:n1=n2
 ·subst hn;by_cases hl:l.length=m.length
  ·have HL:=Lib.hid hl;obtain⟨W,hW⟩:∃W,((w.alloc (.cells #[.bool n1,.slice a1 l.length c1] 29)).alloc (.cells #[.bool n1,.slice a2 m.length c2] 29))=W:=⟨_,rfl⟩;have hK:∀w1,Ext W w1→w1.cell? ⟨w.heap.size,1,none⟩=some (.slice a1 l.length c1)∧w1.cell? ⟨w.heap.size+1,1,none⟩=some (.slice a2 m.length c2):=by
    intro w1 hb;subst hW;constructor
    ·rw[hb.cell (p:=⟨w.heap.size,1,none⟩) (by simp; omega)]; simp[go_sem]
    rw[hb.cell (p:=⟨w.heap.size+1,1,none⟩) (by simp)]; simp[go_sem]
   have HK:=Lib.hid hK;rw[hW]at HB0;have HW:=Lib.hid hW;have hne:((l.length:Int) != (m.length:Int))=false:=by rw[bne_eq_false_iff_eq]; omega
   have hml:m.length≤l.length:=Nat.le_of_eq hl.symm;have hlm:l.length≤m.length:=Nat.le_of_eq hl;clear hl hK hW;cases n1;all_goals
    go_enter Tryz.func217,Tryz.ntmps217
    go_wp2_with fail
    rw[HW.out]
    clear hne
    go_loopw [5] (fun i wr=>∃k:Nat,i = .i k∧k≤l.length∧l.take k=m.take k∧Ext W wr) (fun i _=>l.length-(intOf i).toNat)
    case atStart=>exact⟨0,rfl,Nat.zero_le _,rfl,Below.refl _ _⟩
    case round =>
     obtain⟨k,rfl,hk,ht,hbel⟩:=hrel
     have HT:=Lib.hid ht
     clear ht
     obtain⟨q1,q2⟩:=HK.out wr hbel
     by_cases hlt:k<l.length
     ·obtain⟨bx,ox,cx,hxs,hbx,hlx,hmx,hcx⟩:=eY H1.out rfl (by omega)
      obtain⟨by',oy,cy,hys,hby,hly,hmy,hcy⟩:=eY H2.out rfl (by omega)
      simp only[Value.slice.injEq]at hxs hys
      obtain⟨rfl,-,-⟩:=hxs
      obtain⟨rfl,-,-⟩:=hys
      have hkm:k<m.length:=by omega
      have hb:=Ext.trans' HB0.out hbel
      have r1:wr.cell? ⟨bx,ox+k,none⟩=some (aU l[k]):=by rw[hb.cell (p:=⟨bx,ox+k,none⟩) hbx]; exact hcx k hlt
      have r2:wr.cell? ⟨by',oy+k,none⟩=some (aU m[k]):=by rw[hb.cell (p:=⟨by',oy+k,none⟩) hby]; exact hcy k hkm
      have hs1:=take_snoc l k hlt
      have hs2:=take_snoc m k hkm
      clear hcx hcy hb
      have hkI:(k:Int)<(m.length:Int):=by omega
      by_cases he:l[k]=m[k]
      ·have hnx:l.take (k+1)=m.take (k+1):=by rw[hs1,hs2,HT.out,he]
       rw[he]at r1
       have HN:=Lib.hid hnx
       generalize m[k]=d at *
       clear hs1 hs2 hnx he
       go_wp2_with fail
       go_quiet (fail)
       go_wp2_with fail
       go_roundw
       case rel=>exact⟨k+1,by go_num,by omega,HN.out,below_drewN hbel _⟩
       case measure=>simp[intOf]; omega
      ·have hx:((l[k].toNat:Int) != (m[k].toNat:Int))=true:=by
        rw[bne_iff_ne]; intro e; exact he (UInt32.toNat_inj.1 (by omega))
       have hr:l≠m:=fun e=>he (by subst e; rfl)
       have HR:Hid ((l==m)=false):=beq_eq_false_iff_ne.2 hr
       generalize l[k]=d1 at *
       generalize m[k]=d2 at *
       clear hs1 hs2 he hr
       go_wp2_with fail
       go_quiet (fail)
       go_wp2_with fail
       go_ret
       exact⟨by rw[HR.out]; rfl,below_drewN (Ext.trans' HB0.out hbel) _⟩
     ·obtain rfl:k=l.length:=by omega
      have hr:l=m:=by
       have:=HT.out
       rw[List.take_length,HL.out,List.take_length]at this; exact this
      have HR:Hid ((l==m)=true):=beq_iff_eq.2 hr
      clear hr
      go_wp2_with fail
      go_ret
      exact⟨by rw[HR.out]; rfl,Ext.trans' HB0.out hbel⟩
  have hne:((l.length:Int) != (m.length:Int))=true:=by rw[bne_iff_ne]; omega
  have hr:Hid ((n1==n1&&l==m)=false):=by
   show _=_;rw[beq_self_eq_true,Bool.true_and,beq_eq_false_iff_ne]; exact fun e=>hl (by rw[e])
  clear hl;cases n1;all_goals
   go_enter Tryz.func217,Tryz.ntmps217
   go_wp2_with fail
   go_ret
   exact⟨by rw[hr.out]; rfl,HB0.out⟩
 have hr:Hid ((n1==n2&&l==m)=false):=by
  show _=_;rw[beq_eq_false_iff_ne.2 hn,Bool.false_and]
 cases n1<;>cases n2
 ·exact absurd rfl hn
 case' true.true=>exact absurd rfl hn
 all_goals
  clear hn
  go_enter Tryz.func217,Tryz.ntmps217
  go_wp2_with fail
  go_ret
  exact⟨by rw[hr.out]; rfl,HB0.out⟩
end
end Go.Proofs.YtfmkkemfhjkajaaGreatDoor
