/- Walks of the references on integers and rational -/
import Derived.Test.YtfmkkemfhjkajaaGreatDoorPk25
set_option linter.unusedVariables false
namespace Go.Proofs.YtfmkkemfhjkajaaGreatDoor
open _root_.Go.Proofs.Tryz
section
set_option maxHeartbeats 1600000
set_option maxRecDepth 100000
open Go.RowKit
variable{α:Type}
theorem _root_.Go.Sx.aeA{P:Program}{w0 w:World}{a:Act}{n:Nat}{l:List (Nat×Value)}{bl:List (Nat×List Value)}{vs:List Sx.gX}(S:Sx.St w0 a w n l bl vs){fn:Func}{R:Ending→World→Prop}(i j:Nat){r s t b c:Nat}{ty:TypeId}{A B:List Value}{u v x:Value}(hr:fn.results = #[.cell r ty,.cell s ty,.tmp t])(hi:bl[i]?=some (b,A))(hj:bl[j]?=some (c,B))(h:R (.returned (.tuple #[u,v,x])) w)
  (h1:Vp.ev l (.tmp r)=some (.pointer (some ⟨b,0,none⟩)):=by kernel_rfl) (h2:Vp.ev l (.tmp s)=some (.pointer (some ⟨c,0,none⟩)):=by kernel_rfl) (h3:Vp.ev l (.tmp t)=some x:=by kernel_rfl) (l1:Sx.XH P ty A=some u:=by kernel_rfl) (l2:Sx.XH P ty B=some v:=by kernel_rfl):bodyPost P fn R .ret a w:=by
 refine⟨S.s.defers,_,?_,h⟩;have e1:=S.s.ev h1;have e2:=S.s.ev h2;have e3:=S.s.ev h3;unfold results;rw[hr];simp only[Act.eval,Array.getD_eq_getD_getElem?]at e1 e2 e3;simp[e1,e2,e3,asAddr,S.var hi l1,S.var hj l2]
theorem O6{s:Value}{m:List UInt32}{w:World}(h:aC w s m)(hm:0<Na.val m)(hl:m.length≤100000000) :
  Calls prog 186 #[.agg #[.bool false,s]] w fun e w'=>e = .returned (.i 1)∧Ext w w':=by
 have hc:=qh false _ m w h hl;rw[show rX false (Na.val m)=1 from by unfold rX; rw[ak9 (by omega)]; rfl]at hc;exact hc
theorem La{b:Bool}{s:Value}{w:World}(h:aC w s (Na.au 0)) :
  Calls prog 186 #[.agg #[.bool b,s]] w fun e w'=>e = .returned (.i 0)∧Ext w w':=by
 have hc:=qh b _ _ w h (by simp[Na.mO]);rw[Na.aH,show rX b 0=0 from rfl]at hc;exact hc
theorem mF{base:Nat}{w:World}{b neg:Bool}{s:Value}{n:Nat}(h:aF base w (.agg #[.bool b,s]) neg n):aC w s (Na.au n):=by
 obtain⟨t,e,hs,_⟩:=h;simp only[amD,amE,alU,and_true]at e;obtain⟨-,rfl⟩:=e;exact hs
theorem aF.flag{base:Nat}{w:World}{v:Value}{n n':Bool}{a:Nat}(h:aF base w v n a)(e:n=n'):aF base w v n' a:=e▸h
theorem O7{base:Nat}{w:World}{b c n1 n2 neg:Bool}{s t:Value}{x y:Nat}(h:aF base w (.agg #[.bool b,s]) n1 x)(k:aF base w (.agg #[.bool c,t]) n2 y)(e1:n1=neg)(e2:n2=false):aA base w (.agg #[.bool b,s,.bool c,t]) neg x y:=by
 obtain⟨s',e,hs,fs⟩:=h;obtain⟨t',e',ht,ft⟩:=k;simp only[amD,amE,alU,Value.bool.injEq,and_true]at e e';obtain⟨rfl,rfl⟩:=e;obtain⟨rfl,rfl⟩:=e';exact⟨_,_,by rw[e1,e2],hs,ht,fs,ft⟩
theorem aaD{n:Bool}{b:Nat}(hb:0<b):decide (rX n b<0)=n:=by
 unfold rX;rw[ak9 (by omega)];cases n<;>simp
theorem O8(n1 n2:Bool)(a b:Nat)(hb:0<b):mZ n1 n2 a b=((if n2 then !n1&&decide (0<a)else n1)&&decide (0<a/Nat.gcd a b)):=by
 unfold mZ;rcases alS a with h | h
 ·subst h; simp
 congr 1;unfold rX;rw[ak9 (show ¬a=0 by omega),ak9 (show ¬b=0 by omega)];cases n1<;>cases n2<;>simp[h]
theorem lq(n1:Bool)(s t:Value)(l m:List UInt32)(w:World)(h1:aC w s l)(h2:aC w t m)(hm:0<Na.val m)(hdvd:Na.val l%Na.val m=0)(hl1:l.length≤5000000)(hl2:m.length≤5000000) :
  Calls prog 220 #[.agg #[.bool n1,s],.agg #[.bool false,t]] w fun e w'=>∃x y,e = .returned (.tuple #[x,y,.i 0]) ∧
   aF w.heap.size w' x (n1&&decide (0<Na.val l/Na.val m)) (Na.val l/Na.val m)∧aF w.heap.size w' y false 0∧Ext w w':=by
 obtain⟨a1,c1,rfl⟩:=h1.shape;obtain⟨a2,c2,rfl⟩:=h2.shape;refine akN func220 ntmps220 fun ac S=>akJ fun _ aS=>akK S 2 [.bool n1,.slice a1 l.length c1] fun ac u b2 E3 hb4 S=>akK S 3 [.bool false,.slice a2 m.length c2] fun ac u b5 E6 hb7 S=>akK S 4 [.bool false,.slice none 0 0] fun ac u b8 E9 wG S=>akK S 5 [.bool false,.slice none 0 0] fun ac u b11 DL abZ S=>adr S 1 [] [(6,.i 0)] fun S=>akI<|aS _ _<|ak6 fun _ fH=>akJ fun _ fJ=>adr S 1 [.mem 2 0] [(12,.agg #[.bool false,.slice a2 m.length c2])] fun S=>akQ S 13 (O6 (h2.below S.E) hm (by omega)) fun ac u Qx S=>adr S 1 [] [(14,.bool false)] fun S=>akI<|fJ _ _<|ak1 S<|ak7<|fH _ _<|akJ fun _ gJ=>adr S 4 [.mem 3 1,.mem 2 1] [(19,.slice a1 l.length c1),(21,.slice a2 m.length c2)] fun S=>akS S (some 22) (yT _ _ l m _ (h1.below S.E) (h2.below S.E) hm (by omega) (by omega)) ?_;rintro e u ⟨q,r,rfl,hq,hr,D5⟩;have hq:aC _ _ _:=aZ hq;have hr:aC _ _ _:=aZ hr;rw[hdvd]at hr;obtain⟨aq,cq,rfl⟩:=hq.shape;obtain⟨ar,cr,rfl⟩:=hr.shape;refine⟨_,rfl,D5,fun ac S=>?_⟩;refine adr S 7 [] [(7,.slice aq (Na.au (Na.val l/Na.val m)).length cq),(8,.slice ar (Na.au 0).length cr)] fun S=>akI<|gJ _ _<|akJ fun _ jf=>adr S 6 [.mem 3 0,.mem 2 0] [(30,.bool (!(n1==false))),(31,.slice aq (Na.au (Na.val l/Na.val m)).length cq)] fun S=>akS S (some 32) (jR (!(n1==false)) hq (by have:=fF (am1 (Na.val l) (Na.val m)); have:=bD l; omega)) ?_;rintro e u ⟨x,rfl,fx,zk⟩;obtain⟨Vw,Vx,rfl⟩:=fx.shape;have afW:=S.E.size;refine⟨_,rfl,zk,fun ac S=>?_⟩;refine akK S 10 [.bool false,.slice none 0 0] fun ac u YB Jd Np S=>akO S 0 (off:=0) (cs:=[.bool ((!(n1==false))&&decide (0<(Na.val l/Na.val m))),.slice Vw (Na.au (Na.val l/Na.val m)).length Vx]) rfl (fun u MP S=>?_);have QB:=akR (Ext.trans' zk Jd) MP (by have:=zk.size; omega);have Yz:=akR (Ext.trans' zk Jd) MP (by have:=zk.size; omega);have E27:=akR Jd MP (by omega);refine akI<|jf _ _<|akJ fun _ lF=>adr S 3 [.mem 4 0] [(34,.bool n1),(35,.slice ar (Na.au 0).length cr)] fun S=>akS S (some 36) (jR n1 (hr.below Yz) (by simp[Na.mO])) ?_;rintro e u ⟨x,rfl,fy,Bz⟩;obtain⟨Tm,Tn,rfl⟩:=fy.shape;have afX:=S.E.size;refine⟨_,rfl,Bz,fun ac S=>?_⟩;refine akK S 11 [.bool false,.slice none 0 0] fun ac u b30 DZ J3 S=>akO S 0 (off:=0) (cs:=[.bool (n1&&decide (0<0)),.slice Tm (Na.au 0).length Tn]) rfl (fun u MQ S=>?_);have Ux:=akR (Ext.trans' QB (Ext.trans' Bz DZ)) MQ (by have:=(Ext.trans' QB Bz).size; omega);have I8:=akR (Ext.trans' Yz (Ext.trans' Bz DZ)) MQ (by have:=(Ext.trans' Yz Bz).size; omega);have WC:=akR (Ext.trans' E27 (Ext.trans' Bz DZ)) MQ (by have:=(Ext.trans' E27 Bz).size; omega);have Ja:=akR DZ MQ (by omega);refine akI<|lF _ _<|ak6 fun _ iW=>akJ fun _ qB=>akX S 10 [.mem 5 0,.mem 4 0,.mem 0 0] [(_,_,(!(n1==false)),.i 0)] [(46,.bool ((!(n1==false))&&false))] ⟨fun u hC g=>La (b:=n1&&decide (0<0)) (mF (fy.ext (Ext.trans' Ja hC))),trivial⟩ fun ac u WO S=>akI (qB _ _ ?_);refine akL S (fun IE=>?_) (fun IE=>?_)
 ·simp at IE
 refine ak7<|iW _ _<|ak6 (fun _ nM=>?_);have X44:=S.bx 3;refine Sx.afV S 2 0 [.mem 1 0,.mem 0 0] [(54,.agg #[.bool (n1&&decide (0<0)),.slice Tm (Na.au 0).length Tn])] 3 (off:=0) (cs:=[.bool ((!(n1==false))&&decide (0<(Na.val l/Na.val m))),.slice Vw (Na.au (Na.val l/Na.val m)).length Vx]) rfl (fun ac u C43 S=>?_);have WH:=qU (hq.below (Ext.trans' Ux WO)) C43 X44 rfl;have abX:=qU (hr.below (Ext.trans' I8 WO)) C43 X44 rfl;have adW:=aF.bC (fx.ext (Ext.trans' WC WO)) C43 X44;have WI:=aF.bC (fy.ext (Ext.trans' Ja WO)) C43 X44;have X50:=S.bx 2;refine akO S 2 (off:=0) (cs:=[.bool (n1&&decide (0<0)),.slice Tm (Na.au 0).length Tn]) rfl (fun u C49 S=>?_);have Iq:=qU WH C49 X50 rfl;have MX:=qU abX C49 X50 rfl;have QG:=aF.bC adW C49 X50;have aii:=aF.bC WI C49 X50;refine adr S 1 [] [(6,.i 0)] fun S=>akI<|nM _ _<|ala ?_;refine Sx.aeA S 3 2 results220 rfl rfl ⟨_,_,rfl,(aF.mono QG (by omega)).flag (by simp),(aF.mono aii (by omega)).flag (by simp),S.E⟩
theorem yV(n1 n2:Bool)(s1 s2:Value)(l m:List UInt32)(w:World)(h1:aC w s1 l)(h2:aC w s2 m)(hm:0<Na.val m)(hl1:l.length≤5000000)(hl2:m.length≤5000000) :
  Calls prog 187 #[.agg #[.bool n1,s1],.agg #[.bool n2,s2]] w fun e w'=>∃x,e = .returned x ∧
   aA w.heap.size w' x (mZ n1 n2 (Na.val l) (Na.val m)) (Na.val l/Nat.gcd (Na.val l) (Na.val m)) (Na.val m/Nat.gcd (Na.val l) (Na.val m))∧Ext w w':=by
 obtain⟨a1,c1,rfl⟩:=h1.shape;obtain⟨a2,c2,rfl⟩:=h2.shape;have hG:0<(Nat.gcd (Na.val l) (Na.val m)):=Nat.gcd_pos_of_pos_right _ hm;have hGl:(Na.au (Nat.gcd (Na.val l) (Na.val m))).length≤5000000:=by have:=fF (Nat.le_of_dvd hm (anF (Na.val l) (Na.val m))); have:=bD m; omega
 refine akN func187 ntmps187 fun ac S=>akJ fun _ aS=>akK S 2 [.bool n1,.slice a1 l.length c1] fun ac u b2 E3 hb4 S=>akK S 3 [.bool n2,.slice a2 m.length c2] fun ac u b5 E6 hb7 S=>akK S 4 Sx.zr fun ac u b8 E9 wG S=>akI<|aS _ _<|akJ fun _ dn=>adr S 4 [.mem 2 1,.mem 1 1] [(13,.slice a1 l.length c1),(15,.slice a2 m.length c2)] fun S=>akS S (some 16) (Tf _ _ l m _ (h1.below S.E) (h2.below S.E) hl1 hl2) ?_;rintro e u ⟨g,rfl,hg,DL⟩;obtain⟨ag,cg,rfl⟩:=hg.shape;refine⟨_,rfl,DL,fun ac S=>?_⟩;refine akS S (some 17) (jR false hg (by omega)) ?_;rintro e u ⟨x,rfl,fg,DN⟩;obtain⟨bg,dg,rfl⟩:=fg.shape;refine⟨_,rfl,DN,fun ac S=>?_⟩;refine akK S 5 [.bool false,.slice none 0 0] fun ac u b14 NQ hb16 S=>akO S 0 (off:=0) (cs:=[.bool false,.slice bg (Na.au (Nat.gcd (Na.val l) (Na.val m))).length dg]) rfl (fun u C17 S=>?_);have D5:=akR NQ C17 (by omega);refine akI<|dn _ _<|ak6 fun _ jf=>akJ fun _ iT=>adr S 1 [.mem 2 0] [(18,.agg #[.bool n2,.slice a2 m.length c2])] fun S=>akQ S 19 (qh n2 _ m _ (h2.below S.E) (by omega)) fun ac u BA S=>adr S 1 [] [(20,.bool ((rX n2 (Na.val m))<0))] fun S=>akI (iT _ _ ?_);refine akL S (fun hc22=>?_) (fun hc22=>?_)
 ·have hn:n2=true:=(aaD hm).symm.trans hc22;refine akJ fun _ lX=>adr S 1 [.mem 3 0] [(21,.agg #[.bool n1,.slice a1 l.length c1])] fun S=>akS S (some 22) (Gm n1 _ l _ (h1.below S.E) (by omega)) ?_;rintro e u ⟨x,rfl,nx,S9⟩;obtain⟨bnx,dnx,rfl⟩:=nx.shape;refine⟨_,rfl,S9,fun ac S=>?_⟩;have X26:=S.bx 3;refine akO S 3 (off:=0) (cs:=[.bool (!n1&&decide (0<Na.val l)),.slice bnx (Na.au (Na.val l)).length dnx]) rfl (fun u C25 S=>?_);have KD:=aF.bC (fg.ext (Ext.trans' D5 (Ext.trans' BA S9))) C25 X26;have Rh:=aF.bC nx C25 X26;refine akI<|lX _ _<|alc<|adr S 1 [.mem 2 0] [(23,.agg #[.bool n2,.slice a2 m.length c2])] fun S=>akS S (some 24) (Gm n2 _ m _ (h2.below S.E) (by omega)) ?_;rintro e u ⟨x,rfl,ny,Bz⟩;obtain⟨bny,dny,rfl⟩:=ny.shape;refine⟨_,rfl,Bz,fun ac S=>?_⟩;have X31:=S.bx 2;refine akO S 2 (off:=0) (cs:=[.bool (!n2&&decide (0<Na.val m)),.slice bny (Na.au (Na.val m)).length dny]) rfl (fun u YE S=>?_);have Ro:=aF.bC (KD.ext Bz) YE X31;have BJ:=aF.bC (Rh.ext Bz) YE X31;have Rq:=aF.bC ny YE X31;refine akI<|jf _ _<|akJ fun _ lY=>adr S 2 [.mem 3 0,.mem 0 0] [(26,.agg #[.bool (!n1&&decide (0<Na.val l)),.slice bnx (Na.au (Na.val l)).length dnx]),(27,.agg #[.bool false,.slice bg (Na.au (Nat.gcd (Na.val l) (Na.val m))).length dg])] fun S=>akS S (some 28) (lq (!n1&&decide (0<Na.val l)) _ _ (Na.au (Na.val l)) (Na.au (Nat.gcd (Na.val l) (Na.val m))) _ (mF BJ) (mF Ro) (by rw[Na.aH]; exact hG) (by simp only[Na.aH]; exact Nat.mod_eq_zero_of_dvd (Nat.gcd_dvd_left _ _)) (alq (bD l) hl1) hGl) ?_;rintro e u ⟨x,y,rfl,fx,rfx,WC⟩;simp only[Na.aH]at fx;obtain⟨Vw,Vx,rfl⟩:=fx.shape;obtain⟨aaE,aaF,rfl⟩:=rfx.shape;have afW:=S.E.size;refine⟨_,rfl,WC,fun ac S=>?_⟩;refine adr S 4 [] [(29,.agg #[.bool ((!n1&&decide (0<Na.val l))&&decide (0<(Na.val l/(Nat.gcd (Na.val l) (Na.val m))))),.slice Vw (Na.au (Na.val l/(Nat.gcd (Na.val l) (Na.val m)))).length Vx]),(30,.agg #[.bool false,.slice aaE (Na.au 0).length aaF]),(31,.i 0)] fun S=>akK S 6 [.bool false,.slice none 0 0] fun ac u b37 E38 akc S=>akK S 7 [.bool false,.slice none 0 0] fun ac u b40 E41 afS S=>akO S 1 (off:=0) (cs:=[.bool ((!n1&&decide (0<Na.val l))&&decide (0<(Na.val l/(Nat.gcd (Na.val l) (Na.val m))))),.slice Vw (Na.au (Na.val l/(Nat.gcd (Na.val l) (Na.val m)))).length Vx]) rfl (fun u C43 S=>?_);have E44:=akR (Ext.trans' WC (Ext.trans' E38 E41)) C43 (by have:=WC.size; omega);have E45:=akR (Ext.trans' WC (Ext.trans' E38 E41)) C43 (by have:=WC.size; omega);have Zv:=akR (Ext.trans' E38 E41) C43 (by omega);have X48:=S.bx 0;refine akO S 0 (off:=0) (cs:=[.bool false,.slice aaE (Na.au 0).length aaF]) rfl (fun u YA S=>?_);have Ny:=aF.bC (Ro.ext E44) YA X48;have Rk:=aF.bC (Rq.ext E45) YA X48;have Iq:=aF.bC (fx.ext Zv) YA X48;refine adr S 1 [] [] fun S=>akI<|lY _ _<|akJ fun _ Nr=>adr S 2 [.mem 4 0,.mem 2 0] [(33,.agg #[.bool (!n2&&decide (0<Na.val m)),.slice bny (Na.au (Na.val m)).length dny]),(34,.agg #[.bool false,.slice bg (Na.au (Nat.gcd (Na.val l) (Na.val m))).length dg])] fun S=>akS S (some 35) (lq (!n2&&decide (0<Na.val m)) _ _ (Na.au (Na.val m)) (Na.au (Nat.gcd (Na.val l) (Na.val m))) _ (mF Rk) (mF Ny) (by rw[Na.aH]; exact hG) (by simp only[Na.aH]; exact Nat.mod_eq_zero_of_dvd (anF _ _)) (alq (bD m) hl2) hGl) ?_;rintro e u ⟨x,y,rfl,fy,rfy,E53⟩;simp only[Na.aH]at fy;obtain⟨Tm,Tn,rfl⟩:=fy.shape;obtain⟨aaG,aaH,rfl⟩:=rfy.shape;have afX:=S.E.size;refine⟨_,rfl,E53,fun ac S=>?_⟩;refine adr S 4 [] [(36,.agg #[.bool ((!n2&&decide (0<Na.val m))&&decide (0<(Na.val m/(Nat.gcd (Na.val l) (Na.val m))))),.slice Tm (Na.au (Na.val m/(Nat.gcd (Na.val l) (Na.val m)))).length Tn]),(37,.agg #[.bool false,.slice aaG (Na.au 0).length aaH]),(38,.i 0)] fun S=>akK S 9 [.bool false,.slice none 0 0] fun ac u b54 QK Zx S=>akK S 10 [.bool false,.slice none 0 0] fun ac u b57 E58 akd S=>akO S 1 (off:=0) (cs:=[.bool ((!n2&&decide (0<Na.val m))&&decide (0<(Na.val m/(Nat.gcd (Na.val l) (Na.val m))))),.slice Tm (Na.au (Na.val m/(Nat.gcd (Na.val l) (Na.val m)))).length Tn]) rfl (fun u Qz S=>?_);have E61:=akR (Ext.trans' E53 (Ext.trans' QK E58)) Qz (by have:=E53.size; omega);have E62:=akR (Ext.trans' QK E58) Qz (by omega);have X64:=S.bx 0;refine akO S 0 (off:=0) (cs:=[.bool false,.slice aaG (Na.au 0).length aaH]) rfl (fun u C63 S=>?_);have Zn:=aF.bC (Iq.ext E61) C63 X64;have Zo:=aF.bC (fy.ext E62) C63 X64;refine adr S 1 [] [] fun S=>akI<|Nr _ _<|akJ fun _ Ko=>adr S 3 [.mem 3 0,.mem 1 0] [(41,.agg #[.bool ((!n1&&decide (0<Na.val l))&&decide (0<(Na.val l/(Nat.gcd (Na.val l) (Na.val m))))),.slice Vw (Na.au (Na.val l/(Nat.gcd (Na.val l) (Na.val m)))).length Vx,.bool ((!n2&&decide (0<Na.val m))&&decide (0<(Na.val m/(Nat.gcd (Na.val l) (Na.val m))))),.slice Tm (Na.au (Na.val m/(Nat.gcd (Na.val l) (Na.val m)))).length Tn])] (fun S=>?_);have X69:=S.bx 5;refine akO S 5 (off:=0) (cs:=[.bool ((!n1&&decide (0<Na.val l))&&decide (0<(Na.val l/(Nat.gcd (Na.val l) (Na.val m))))),.slice Vw (Na.au (Na.val l/(Nat.gcd (Na.val l) (Na.val m)))).length Vx,.bool ((!n2&&decide (0<Na.val m))&&decide (0<(Na.val m/(Nat.gcd (Na.val l) (Na.val m))))),.slice Tm (Na.au (Na.val m/(Nat.gcd (Na.val l) (Na.val m)))).length Tn]) rfl (fun u C68 S=>?_);have adt:=aF.bC Zn C68 X69;have aij:=aF.bC Zo C68 X69;refine akI<|Ko _ _<|akW S 5 results187 rfl (v := .agg #[.bool ((!n1&&decide (0<Na.val l))&&decide (0<(Na.val l/(Nat.gcd (Na.val l) (Na.val m))))),.slice Vw (Na.au (Na.val l/(Nat.gcd (Na.val l) (Na.val m)))).length Vx,.bool ((!n2&&decide (0<Na.val m))&&decide (0<(Na.val m/(Nat.gcd (Na.val l) (Na.val m))))),.slice Tm (Na.au (Na.val m/(Nat.gcd (Na.val l) (Na.val m)))).length Tn]) ?_;exact⟨_,rfl,O7 (aF.mono adt (by omega)) (aF.mono aij (by omega)) (by rw[O8 _ _ _ _ hm,hn]; rfl) (by rw[hn]; rfl),S.E⟩
 have hn:n2=false:=(aaD hm).symm.trans hc22;refine ak7<|jf _ _<|akJ fun _ J7=>adr S 2 [.mem 3 0,.mem 0 0] [(26,.agg #[.bool n1,.slice a1 l.length c1]),(27,.agg #[.bool false,.slice bg (Na.au (Nat.gcd (Na.val l) (Na.val m))).length dg])] fun S=>akS S (some 28) (lq n1 _ _ l (Na.au (Nat.gcd (Na.val l) (Na.val m))) _ (h1.below S.E) (mF (fg.ext (Ext.trans' D5 BA))) (by rw[Na.aH]; exact hG) (by simp only[Na.aH]; exact Nat.mod_eq_zero_of_dvd (Nat.gcd_dvd_left _ _)) hl1 hGl) ?_;rintro e u ⟨x,y,rfl,fx,rfx,E73⟩;simp only[Na.aH]at fx;obtain⟨Vw,Vx,rfl⟩:=fx.shape;obtain⟨aaE,aaF,rfl⟩:=rfx.shape;have afW:=S.E.size;refine⟨_,rfl,E73,fun ac S=>?_⟩;refine adr S 4 [] [(29,.agg #[.bool (n1&&decide (0<(Na.val l/(Nat.gcd (Na.val l) (Na.val m))))),.slice Vw (Na.au (Na.val l/(Nat.gcd (Na.val l) (Na.val m)))).length Vx]),(30,.agg #[.bool false,.slice aaE (Na.au 0).length aaF]),(31,.i 0)] fun S=>akK S 6 [.bool false,.slice none 0 0] fun ac u b74 E75 ake S=>akK S 7 [.bool false,.slice none 0 0] fun ac u b77 E78 ahm S=>akO S 1 (off:=0) (cs:=[.bool (n1&&decide (0<(Na.val l/(Nat.gcd (Na.val l) (Na.val m))))),.slice Vw (Na.au (Na.val l/(Nat.gcd (Na.val l) (Na.val m)))).length Vx]) rfl (fun u C80 S=>?_);have E81:=akR (Ext.trans' D5 (Ext.trans' BA (Ext.trans' E73 (Ext.trans' E75 E78)))) C80 (by have:=(Ext.trans' D5 (Ext.trans' BA E73)).size; omega);have E82:=akR (Ext.trans' E75 E78) C80 (by omega);have X84:=S.bx 0;refine akO S 0 (off:=0) (cs:=[.bool false,.slice aaE (Na.au 0).length aaF]) rfl (fun u C83 S=>?_);have YR:=aF.bC (fg.ext E81) C83 X84;have QI:=aF.bC (fx.ext E82) C83 X84;refine adr S 1 [] [] fun S=>akI<|J7 _ _<|akJ fun _ abM=>adr S 2 [.mem 4 0,.mem 2 0] [(33,.agg #[.bool n2,.slice a2 m.length c2]),(34,.agg #[.bool false,.slice bg (Na.au (Nat.gcd (Na.val l) (Na.val m))).length dg])] fun S=>akS S (some 35) (lq n2 _ _ m (Na.au (Nat.gcd (Na.val l) (Na.val m))) _ (h2.below S.E) (mF YR) (by rw[Na.aH]; exact hG) (by simp only[Na.aH]; exact Nat.mod_eq_zero_of_dvd (anF _ _)) hl2 hGl) ?_;rintro e u ⟨x,y,rfl,fy,rfy,E88⟩;simp only[Na.aH]at fy;obtain⟨Tm,Tn,rfl⟩:=fy.shape;obtain⟨aaG,aaH,rfl⟩:=rfy.shape;have afX:=S.E.size;refine⟨_,rfl,E88,fun ac S=>?_⟩;refine adr S 4 [] [(36,.agg #[.bool (n2&&decide (0<(Na.val m/(Nat.gcd (Na.val l) (Na.val m))))),.slice Tm (Na.au (Na.val m/(Nat.gcd (Na.val l) (Na.val m)))).length Tn]),(37,.agg #[.bool false,.slice aaG (Na.au 0).length aaH]),(38,.i 0)] fun S=>akK S 9 [.bool false,.slice none 0 0] fun ac u b89 E90 akf S=>akK S 10 [.bool false,.slice none 0 0] fun ac u b92 E93 akg S=>akO S 1 (off:=0) (cs:=[.bool (n2&&decide (0<(Na.val m/(Nat.gcd (Na.val l) (Na.val m))))),.slice Tm (Na.au (Na.val m/(Nat.gcd (Na.val l) (Na.val m)))).length Tn]) rfl (fun u C95 S=>?_);have E96:=akR (Ext.trans' E88 (Ext.trans' E90 E93)) C95 (by have:=E88.size; omega);have E97:=akR (Ext.trans' E90 E93) C95 (by omega);have X99:=S.bx 0;refine akO S 0 (off:=0) (cs:=[.bool false,.slice aaG (Na.au 0).length aaH]) rfl (fun u C98 S=>?_);have afY:=aF.bC (QI.ext E96) C98 X99;have afZ:=aF.bC (fy.ext E97) C98 X99;refine adr S 1 [] [] fun S=>akI<|abM _ _<|akJ fun _ af0=>adr S 3 [.mem 3 0,.mem 1 0] [(41,.agg #[.bool (n1&&decide (0<(Na.val l/(Nat.gcd (Na.val l) (Na.val m))))),.slice Vw (Na.au (Na.val l/(Nat.gcd (Na.val l) (Na.val m)))).length Vx,.bool (n2&&decide (0<(Na.val m/(Nat.gcd (Na.val l) (Na.val m))))),.slice Tm (Na.au (Na.val m/(Nat.gcd (Na.val l) (Na.val m)))).length Tn])] (fun S=>?_);have af2:=S.bx 5;refine akO S 5 (off:=0) (cs:=[.bool (n1&&decide (0<(Na.val l/(Nat.gcd (Na.val l) (Na.val m))))),.slice Vw (Na.au (Na.val l/(Nat.gcd (Na.val l) (Na.val m)))).length Vx,.bool (n2&&decide (0<(Na.val m/(Nat.gcd (Na.val l) (Na.val m))))),.slice Tm (Na.au (Na.val m/(Nat.gcd (Na.val l) (Na.val m)))).length Tn]) rfl (fun u Y9 S=>?_);have YV:=aF.bC afY Y9 af2;have YW:=aF.bC afZ Y9 af2;refine akI<|af0 _ _<|akW S 5 results187 rfl (v := .agg #[.bool (n1&&decide (0<(Na.val l/(Nat.gcd (Na.val l) (Na.val m))))),.slice Vw (Na.au (Na.val l/(Nat.gcd (Na.val l) (Na.val m)))).length Vx,.bool (n2&&decide (0<(Na.val m/(Nat.gcd (Na.val l) (Na.val m))))),.slice Tm (Na.au (Na.val m/(Nat.gcd (Na.val l) (Na.val m)))).length Tn]) ?_;exact⟨_,rfl,O7 (aF.mono YV (by omega)) (aF.mono YW (by omega)) (by rw[O8 _ _ _ _ hm,hn]; rfl) (by rw[hn]; rfl),S.E⟩
end
section
set_option maxHeartbeats 1600000
set_option maxRecDepth 100000
open Go.RowKit
variable{α:Type}
theorem Gt{w w1:World}{A:Array Value}{ta tb:TypeId}{x0 x1 x2 x3:Value}(hb:Ext ((w.alloc (.cells A ta)).alloc (.cells #[x0,x1,x2,x3] tb)) w1) :
  (∀i,w1.cell? ⟨w.heap.size,i,none⟩=A[i]?)∧(∀i,w1.cell? ⟨w.heap.size+1,i,none⟩ = #[x0,x1,x2,x3][i]?)∧(∀i,w1.frozen? ⟨w.heap.size+1,i,none⟩=false)∧w.heap.size+1<w1.heap.size:=by
 refine⟨fun i=>?_,fun i=>?_,fun i=>?_,by have:=hb.size; simp at this; omega⟩
 ·rw[hb.cell (p:=⟨w.heap.size,i,none⟩) (by simp; omega)]; simp[go_sem]
 ·rw[hb.cell (p:=⟨w.heap.size+1,i,none⟩) (by simp)]; simp[go_sem]
 rw[hb.frozen (p:=⟨w.heap.size+1,i,none⟩) (by simp)]; simp[go_sem]
theorem yN(n1 n2:Bool)(s1 s2:Value)(l m:List UInt32)(w:World)(h1:aC w s1 l)(h2:aC w s2 m)(hl1:l.length≤5000000)(hl2:m.length≤5000000) :
  Calls prog 147 #[.agg #[.bool n1,s1,.bool n2,s2]] w fun e w'=>∃x,e = .returned x∧bG w.heap.size w' x (nrm n1 n2 (Na.val l) (Na.val m))∧Ext w w':=by
 obtain⟨a1,c1,rfl⟩:=h1.shape;obtain⟨a2,c2,rfl⟩:=h2.shape;have hb0:=(aT w (.cells #[.bool n1,.slice a1 l.length c1,.bool n2,.slice a2 m.length c2] 31)).alloc (by simp) (.cells #[.bool false,.slice none 0 0,.bool false,.slice none 0 0] 31);have hS:=qh n2 _ m _ (h2.below hb0) (by omega);have H:=ak3 (And.intro h1 h2);have HB0:=ak3 hb0;rcases alS (Na.val m)with hm | hm
 ·have hN:nrm n1 n2 (Na.val l) (Na.val m)=(false,0,1):=by unfold nrm; rw[ale hm]
  rw[hN];rw[hm,show rX n2 0=0 from rfl]at hS;have HS:=ak3 hS;clear h1 h2 hb0 hm hN hS;go_enter func147,ntmps147
  go_wp2_with fail
  refine HS.out.mono ?_;rintro e w1 ⟨rfl,hb⟩;have HX:=ak3 (Ext.trans' HB0.out hb);have HY:=ak3 (oq 0 w1 (by decide));have HBB:=ak3 hb;clear hb HS;go_wp2_with fail
  refine HY.out.mono ?_;rintro e w2 ⟨x,rfl,hx,hb2⟩;obtain⟨b1,d1,b2,d2,rfl⟩:=hx.shape;obtain⟨-,r1,f1,hz⟩:=Gt (Ext.trans' HBB.out hb2);obtain⟨-,-,-,hz1⟩:=Gt HBB.out;have F:=ak3 hx;have HX2:=ak3 (Ext.trans' HX.out hb2);clear hx hb2 HY;go_wp2_with fail
  refine bodyPost_ret (v := .agg #[.bool false,.slice b1 (Na.au 0).length d1,.bool false,.slice b2 (Na.au 1).length d2]) (by simp[results,results147,go_sem,r1]) rfl ⟨_,rfl,?_,vK HX2.out (by omega) _ _ _ _⟩;exact(F.out.Lc hz1 _ _ _ _).mono (by omega)
 have hN:nrm n1 n2 (Na.val l) (Na.val m)=(mZ n1 n2 (Na.val l) (Na.val m),Na.val l/Nat.gcd (Na.val l) (Na.val m),Na.val m/Nat.gcd (Na.val l) (Na.val m)):=by unfold nrm; rw[ak9 (by omega)]
 obtain⟨⟨NG,X,Y⟩,hr⟩:∃r,nrm n1 n2 (Na.val l) (Na.val m)=r:=⟨_,rfl⟩;rw[hr];rw[hN]at hr;obtain⟨e1,hr⟩:=Prod.mk.inj hr;obtain⟨e2,e3⟩:=Prod.mk.inj hr;have E:=ak3 (And.intro e1 (And.intro e2 e3));clear e1 e2 e3 hr hN;have hs0:(rX n2 (Na.val m)==0)=false:=by
  rw[alp]; unfold rX; rw[ak9 (by omega)]; cases n2<;>simp
 have HM:=ak3 hm;have HS:=ak3 hS;clear h1 h2 hb0 hm hS;go_enter func147,ntmps147
 go_wp2_with fail
 refine HS.out.mono ?_;rintro e w1 ⟨rfl,hb⟩;have hX:=Ext.trans' HB0.out hb;have HX:=ak3 hX;have hY:=yV n1 n2 _ _ l m w1 (H.out.1.below hX) (H.out.2.below hX) HM.out hl1 hl2;rw[E.out.1,E.out.2.1,E.out.2.2]at hY;have HY:=ak3 hY;clear hY;have HBB:=ak3 hb;obtain⟨k0,-,-,-⟩:=Gt hb;clear hb HS hX;go_wp2_with fail
 refine HY.out.mono ?_;rintro e w2 ⟨x,rfl,hx,hb2⟩;obtain⟨b1,d1,b2,d2,rfl⟩:=hx.shape;obtain⟨-,r1,f1,hz⟩:=Gt (Ext.trans' HBB.out hb2);obtain⟨-,-,-,hz1⟩:=Gt HBB.out;have F:=ak3 hx;have HX2:=ak3 (Ext.trans' HX.out hb2);clear hx hb2 HY k0;go_wp2_with fail
 refine bodyPost_ret (v := .agg #[.bool NG,.slice b1 (Na.au X).length d1,.bool false,.slice b2 (Na.au Y).length d2]) (by simp[results,results147,go_sem,r1]) rfl ⟨_,rfl,?_,vK HX2.out (by omega) _ _ _ _⟩;exact(F.out.Lc hz1 _ _ _ _).mono (show w.heap.size≤w1.heap.size by omega)
theorem Dk(n1 n2:Bool)(s1 s2:Value)(l m:List UInt32)(w:World)(h1:aC w s1 l)(h2:aC w s2 m) :
  Calls prog 217 #[.agg #[.bool n1,s1],.agg #[.bool n2,s2]] w fun e w'=>e = .returned (.bool (n1==n2&&l==m))∧Ext w w':=by
 obtain⟨a1,c1,rfl⟩:=h1.shape;obtain⟨a2,c2,rfl⟩:=h2.shape;have hl1:=h1.len;have hl2:=h2.len;unfold maxLen at hl1 hl2;have HB0:=ak3 ((aT w (.cells #[.bool n1,.slice a1 l.length c1] 29)).alloc (by simp) (.cells #[.bool n2,.slice a2 m.length c2] 29));have H1:=ak3 h1;have H2:=ak3 h2;clear h1 h2;by_cases hn:n1=n2
 ·subst hn;by_cases hl:l.length=m.length
  ·have HL:=ak3 hl;obtain⟨W,hW⟩:∃W,((w.alloc (.cells #[.bool n1,.slice a1 l.length c1] 29)).alloc (.cells #[.bool n1,.slice a2 m.length c2] 29))=W:=⟨_,rfl⟩;have hK:∀w1,Ext W w1→w1.cell? ⟨w.heap.size,1,none⟩=some (.slice a1 l.length c1)∧w1.cell? ⟨w.heap.size+1,1,none⟩=some (.slice a2 m.length c2):=by
    intro w1 hb;subst hW;constructor
    ·rw[hb.cell (p:=⟨w.heap.size,1,none⟩) (by simp; omega)]; simp[go_sem]
    rw[hb.cell (p:=⟨w.heap.size+1,1,none⟩) (by simp)]; simp[go_sem]
   have HK:=ak3 hK;rw[hW]at HB0;have HW:=ak3 hW;have hne:((l.length:Int) != (m.length:Int))=false:=by rw[bne_eq_false_iff_eq]; omega
   have hml:m.length≤l.length:=Nat.le_of_eq hl.symm;have hlm:l.length≤m.length:=Nat.le_of_eq hl;clear hl hK hW;cases n1;all_goals
    go_enter func217,ntmps217
    go_wp2_with fail
    rw[HW.out]
    clear hne
    go_loopw [5] (fun i wr=>∃k:Nat,i = .i k∧k≤l.length∧l.take k=m.take k∧Ext W wr) (fun i _=>l.length-(intOf i).toNat)
    case atStart=>exact⟨0,rfl,alg _,rfl,alD _ _⟩
    case round =>
     obtain⟨k,rfl,hk,ht,hbel⟩:=hrel
     have HT:=ak3 ht
     clear ht
     obtain⟨q1,q2⟩:=HK.out wr hbel
     by_cases hlt:k<l.length
     ·obtain⟨bx,ox,cx,hxs,hbx,hlx,hmx,hcx⟩:=eH H1.out rfl (by omega)
      obtain⟨by',oy,cy,hys,hby,hly,hmy,hcy⟩:=eH H2.out rfl (by omega)
      simp only[alF]at hxs hys
      obtain⟨rfl,-,-⟩:=hxs
      obtain⟨rfl,-,-⟩:=hys
      have hkm:k<m.length:=by omega
      have hb:=Ext.trans' HB0.out hbel
      have r1:wr.cell? ⟨bx,ox+k,none⟩=some (aU l[k]):=by rw[hb.cell (p:=⟨bx,ox+k,none⟩) hbx]; exact hcx k hlt
      have r2:wr.cell? ⟨by',oy+k,none⟩=some (aU m[k]):=by rw[hb.cell (p:=⟨by',oy+k,none⟩) hby]; exact hcy k hkm
      have hs1:=take_snoc l k hlt
      have hs2:=take_snoc m k hkm
      clear hcx hcy hb
      have hkI:(k:Int)<(m.length:Int):=by omega
      by_cases he:l[k]=m[k]
      ·have hnx:l.take (k+1)=m.take (k+1):=by rw[hs1,hs2,HT.out,he]
       rw[he]at r1
       have HN:=ak3 hnx
       generalize m[k]=d at *
       clear hs1 hs2 hnx he
       go_wp2_with fail
       go_quiet (fail)
       go_wp2_with fail
       go_roundw
       case rel=>exact⟨k+1,by go_num,by omega,HN.out,below_drewN hbel _⟩
       case measure=>simp[intOf]; omega
      ·have hx:((l[k].toNat:Int) != (m[k].toNat:Int))=true:=by
        rw[bne_iff_ne]; intro e; exact he (amF.1 (by omega))
       have hr:l≠m:=fun e=>he (by subst e; rfl)
       have HR:Hid ((l==m)=false):=alp.2 hr
       generalize l[k]=d1 at *
       generalize m[k]=d2 at *
       clear hs1 hs2 he hr
       go_wp2_with fail
       go_quiet (fail)
       go_wp2_with fail
       go_ret
       exact⟨by rw[HR.out]; rfl,below_drewN (Ext.trans' HB0.out hbel) _⟩
     ·obtain rfl:k=l.length:=by omega
      have hr:l=m:=by
       have:=HT.out
       rw[al5,HL.out,al5]at this; exact this
      have HR:Hid ((l==m)=true):=alu.2 hr
      clear hr
      go_wp2_with fail
      go_ret
      exact⟨by rw[HR.out]; rfl,Ext.trans' HB0.out hbel⟩
  have hne:((l.length:Int) != (m.length:Int))=true:=by rw[bne_iff_ne]; omega
  have hr:Hid ((n1==n1&&l==m)=false):=by
   show _=_;rw[am6,amJ,alp]; exact fun e=>hl (by rw[e])
  clear hl;cases n1;all_goals
   go_enter func217,ntmps217
   go_wp2_with fail
   go_ret
   exact⟨by rw[hr.out]; rfl,HB0.out⟩
 have hr:Hid ((n1==n2&&l==m)=false):=by
  show _=_;rw[alp.2 hn,am5]
 cases n1<;>cases n2
 ·exact absurd rfl hn
 case' true.true=>exact absurd rfl hn
 all_goals
  clear hn
  go_enter func217,ntmps217
  go_wp2_with fail
  go_ret
  exact⟨by rw[hr.out]; rfl,HB0.out⟩
end
end Go.Proofs.YtfmkkemfhjkajaaGreatDoor
