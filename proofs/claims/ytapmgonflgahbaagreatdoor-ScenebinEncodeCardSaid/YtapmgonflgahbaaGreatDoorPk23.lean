/- Walks of the references on integers and rational -/
import Derived.Test.YtapmgonflgahbaaGreatDoorPk22
import Derived.Test.YtapmgonflgahbaaGreatDoorPk18
set_option linter.unusedVariables false
namespace Go.Proofs.YtapmgonflgahbaaGreatDoor
open _root_.Go.Proofs.Tryz
section
set_option maxHeartbeats 1600000
set_option maxRecDepth 100000
open Go.RowKit
variable{α:Type}
theorem _root_.Go.Sx.aeP{P:Program}{w0 w:World}{a:Act}{n:Nat}{l:List (Nat×Value)}{bl:List (Nat×List Value)}{vs:List Sx.gX}(S:Sx.St w0 a w n l bl vs){fn:Func}{R:Ending→World→Prop}(i j:Nat){r s t b c:Nat}{ty:TypeId}{A B:List Value}{u v x:Value}(hr:fn.results = #[.cell r ty,.cell s ty,.tmp t])(hi:bl[i]?=some (b,A))(hj:bl[j]?=some (c,B))(h:R (.returned (.tuple #[u,v,x])) w)
  (h1:Vp.ev l (.tmp r)=some (.q b 0):=by kernel_rfl) (h2:Vp.ev l (.tmp s)=some (.q c 0):=by kernel_rfl) (h3:Vp.ev l (.tmp t)=some x:=by kernel_rfl) (l1:Sx.Uw P ty A=some u:=by kernel_rfl) (l2:Sx.Uw P ty B=some v:=by kernel_rfl):bodyPost P fn R .ret a w:=by
 refine⟨S.s.defers,_,?_,h⟩;have e1:=S.s.ev h1;have e2:=S.s.ev h2;have e3:=S.s.ev h3;unfold results;rw[hr];simp only[Act.eval,Array.getD_eq_getD_getElem?]at e1 e2 e3;simp[e1,e2,e3,asAddr,S.var hi l1,S.var hj l2]
theorem OQ{s:Value}{m:List UInt32}{w:World}(h:aF w s m)(hm:0<Na.val m)(hl:m.length≤100000000) :
  Calls prog 182 #[.agg #[.z,s]] w fun e w'=>e = .returned (.i 1)∧Ext w w':=by
 have hc:=qp false _ m w h hl;rw[show sW false (Na.val m)=1 from by unfold sW; rw[an0 (by omega)]; rfl]at hc;exact hc
theorem KR{b:Bool}{s:Value}{w:World}(h:aF w s (Na.aj 0)) :
  Calls prog 182 #[.agg #[.bool b,s]] w fun e w'=>e = .returned (.i 0)∧Ext w w':=by
 have hc:=qp b _ _ w h (by simp[Na.rH]);rw[Na.aJ,show sW b 0=0 from rfl]at hc;exact hc
theorem nH{base:Nat}{w:World}{b neg:Bool}{s:Value}{n:Nat}(h:aH base w (.agg #[.bool b,s]) neg n):aF w s (Na.aj n):=by
 obtain⟨t,e,hs,_⟩:=h;simp only[apx,apy,aoM,and_true]at e;obtain⟨-,rfl⟩:=e;exact hs
theorem aH.flag{base:Nat}{w:World}{v:Value}{n n':Bool}{a:Nat}(h:aH base w v n a)(e:n=n'):aH base w v n' a:=e▸h
theorem OT{base:Nat}{w:World}{b c n1 n2 neg:Bool}{s t:Value}{x y:Nat}(h:aH base w (.agg #[.bool b,s]) n1 x)(k:aH base w (.agg #[.bool c,t]) n2 y)(e1:n1=neg)(e2:n2=false):aB base w (.agg #[.bool b,s,.bool c,t]) neg x y:=by
 obtain⟨s',e,hs,fs⟩:=h;obtain⟨t',e',ht,ft⟩:=k;simp only[apx,apy,aoM,Value.bool.injEq,and_true]at e e';obtain⟨rfl,rfl⟩:=e;obtain⟨rfl,rfl⟩:=e';exact⟨_,_,by rw[e1,e2],hs,ht,fs,ft⟩
theorem aai{n:Bool}{b:Nat}(hb:0<b):decide (sW n b<0)=n:=by
 unfold sW;rw[an0 (by omega)];cases n<;>simp
theorem OU(n1 n2:Bool)(a b:Nat)(hb:0<b):nP n1 n2 a b=((if n2 then !n1&&decide (0<a)else n1)&&decide (0<a/Nat.gcd a b)):=by
 unfold nP;rcases aoJ a with h | h
 ·subst h; simp
 congr 1;unfold sW;rw[an0 (show ¬a=0 by omega),an0 (show ¬b=0 by omega)];cases n1<;>cases n2<;>simp[h]
theorem lV(n1:Bool)(s t:Value)(l m:List UInt32)(w:World)(h1:aF w s l)(h2:aF w t m)(hm:0<Na.val m)(hdvd:Na.val l%Na.val m=0)(hl1:l.length≤5000000)(hl2:m.length≤5000000) :
  Calls prog 239 #[.agg #[.bool n1,s],.agg #[.z,t]] w fun e w'=>∃x y,e = .returned (.tuple #[x,y,.i 0]) ∧
   aH w.heap.size w' x (n1&&decide (0<Na.val l/Na.val m)) (Na.val l/Na.val m)∧aH w.heap.size w' y false 0∧Ext w w':=by
 obtain⟨a1,c1,rfl⟩:=h1.shape;obtain⟨a2,c2,rfl⟩:=h2.shape;refine anA func239 ntmps239 fun ac S=>anv fun _ aS=>anw S 2 [.bool n1,.slice a1 l.length c1] fun ac u b2 E3 hb4 S=>anw S 3 [.z,.slice a2 m.length c2] fun ac u b5 E6 hb7 S=>anw S 4 [.z,.sn] fun ac u b8 E9 wH S=>anw S 5 [.z,.sn] fun ac u b11 wE Zw S=>adr S 1 [] [(6,.i 0)] fun S=>anu<|aS _ _<|anV fun _ fP=>anv fun _ gQ=>adr S 1 [.mem 2 0] [(12,.agg #[.z,.slice a2 m.length c2])] fun S=>anE S 13 (OQ (h2.below S.E) hm (by omega)) fun ac u Oo S=>adr S 1 [] [(14,.z)] fun S=>anu<|gQ _ _<|anM S<|anZ<|fP _ _<|anv fun _ gV=>adr S 4 [.mem 3 1,.mem 2 1] [(19,.slice a1 l.length c1),(21,.slice a2 m.length c2)] fun S=>anB S (some 22) (y7 _ _ l m _ (h1.below S.E) (h2.below S.E) hm (by omega) (by omega)) ?_;rintro e u ⟨q,r,rfl,hq,hr,uY⟩;have hq:aF _ _ _:=aU hq;have hr:aF _ _ _:=aU hr;rw[hdvd]at hr;obtain⟨aq,cq,rfl⟩:=hq.shape;obtain⟨ar,cr,rfl⟩:=hr.shape;refine⟨_,rfl,uY,fun ac S=>?_⟩;refine adr S 7 [] [(7,.slice aq (Na.aj (Na.val l/Na.val m)).length cq),(8,.slice ar (Na.aj 0).length cr)] fun S=>anu<|gV _ _<|anv fun _ iU=>adr S 6 [.mem 3 0,.mem 2 0] [(30,.bool (!(n1==false))),(31,.slice aq (Na.aj (Na.val l/Na.val m)).length cq)] fun S=>anB S (some 32) (kE (!(n1==false)) hq (by have:=fQ (apQ (Na.val l) (Na.val m)); have:=bK l; omega)) ?_;rintro e u ⟨x,rfl,fx,Am⟩;obtain⟨UN,UO,rfl⟩:=fx.shape;have ag0:=S.E.size;refine⟨_,rfl,Am,fun ac S=>?_⟩;refine anw S 10 [.z,.sn] fun ac u b21 Yb Ou S=>anC S 0 (off:=0) (cs:=[.bool ((!(n1==false))&&decide (0<(Na.val l/Na.val m))),.slice UN (Na.aj (Na.val l/Na.val m)).length UO]) rfl (fun u C24 S=>?_);have Ap:=anF (Ext.trans' Am Yb) C24 (by have:=Am.size; omega);have Yd:=anF (Ext.trans' Am Yb) C24 (by have:=Am.size; omega);have E27:=anF Yb C24 (by omega);refine anu<|iU _ _<|anv fun _ ni=>adr S 3 [.mem 4 0] [(34,.bool n1),(35,.slice ar (Na.aj 0).length cr)] fun S=>anB S (some 36) (kE n1 (hr.below Yd) (by simp[Na.rH])) ?_;rintro e u ⟨x,rfl,fy,BZ⟩;obtain⟨RS,RU,rfl⟩:=fy.shape;have ag1:=S.E.size;refine⟨_,rfl,BZ,fun ac S=>?_⟩;refine anw S 11 [.z,.sn] fun ac u b30 DF A8 S=>anC S 0 (off:=0) (cs:=[.bool (n1&&decide (0<0)),.slice RS (Na.aj 0).length RU]) rfl (fun u Ya S=>?_);have MV:=anF (Ext.trans' Ap (Ext.trans' BZ DF)) Ya (by have:=(Ext.trans' Ap BZ).size; omega);have J7:=anF (Ext.trans' Yd (Ext.trans' BZ DF)) Ya (by have:=(Ext.trans' Yd BZ).size; omega);have Xf:=anF (Ext.trans' E27 (Ext.trans' BZ DF)) Ya (by have:=(Ext.trans' E27 BZ).size; omega);have FW:=anF DF Ya (by omega);refine anu<|ni _ _<|anV fun _ l7=>anv fun _ qm=>anK S 10 [.mem 5 0,.mem 4 0,.mem 0 0] [(_,_,(!(n1==false)),.i 0)] [(46,.bool ((!(n1==false))&&false))] ⟨fun u hC g=>KR (b:=n1&&decide (0<0)) (nH (fy.ext (Ext.trans' FW hC))),trivial⟩ fun ac u E40 S=>anu (qm _ _ ?_);refine anx S (fun Wx=>?_) (fun Wx=>?_)
 ·simp at Wx
 refine anZ<|l7 _ _<|anV (fun _ sF=>?_);have X44:=S.bx 3;refine Sx.agY S 2 0 [.mem 1 0,.mem 0 0] [(54,.agg #[.bool (n1&&decide (0<0)),.slice RS (Na.aj 0).length RU])] 3 (off:=0) (cs:=[.bool ((!(n1==false))&&decide (0<(Na.val l/Na.val m))),.slice UN (Na.aj (Na.val l/Na.val m)).length UO]) rfl (fun ac u C43 S=>?_);have ajv:=xZ (hq.below (Ext.trans' MV E40)) C43 X44 rfl;have ajw:=xZ (hr.below (Ext.trans' J7 E40)) C43 X44 rfl;have ajx:=aH.dM (fx.ext (Ext.trans' Xf E40)) C43 X44;have ajy:=aH.dM (fy.ext (Ext.trans' FW E40)) C43 X44;have X50:=S.bx 2;refine anC S 2 (off:=0) (cs:=[.bool (n1&&decide (0<0)),.slice RS (Na.aj 0).length RU]) rfl (fun u C49 S=>?_);have ab5:=xZ ajv C49 X50 rfl;have ab6:=xZ ajw C49 X50 rfl;have ZF:=aH.dM ajx C49 X50;have ajz:=aH.dM ajy C49 X50;refine adr S 1 [] [(6,.i 0)] fun S=>anu<|sF _ _<|an2 ?_;refine Sx.aeP S 3 2 results239 rfl rfl ⟨_,_,rfl,(aH.mono ZF (by omega)).flag (by simp),(aH.mono ajz (by omega)).flag (by simp),S.E⟩
theorem y9(n1 n2:Bool)(s1 s2:Value)(l m:List UInt32)(w:World)(h1:aF w s1 l)(h2:aF w s2 m)(hm:0<Na.val m)(hl1:l.length≤5000000)(hl2:m.length≤5000000) :
  Calls prog 183 #[.agg #[.bool n1,s1],.agg #[.bool n2,s2]] w fun e w'=>∃x,e = .returned x ∧
   aB w.heap.size w' x (nP n1 n2 (Na.val l) (Na.val m)) (Na.val l/Nat.gcd (Na.val l) (Na.val m)) (Na.val m/Nat.gcd (Na.val l) (Na.val m))∧Ext w w':=by
 obtain⟨a1,c1,rfl⟩:=h1.shape;obtain⟨a2,c2,rfl⟩:=h2.shape;have hG:0<(Nat.gcd (Na.val l) (Na.val m)):=aqn _ hm;have hGl:(Na.aj (Nat.gcd (Na.val l) (Na.val m))).length≤5000000:=by have:=fQ (Nat.le_of_dvd hm (aqh (Na.val l) (Na.val m))); have:=bK m; omega
 refine anA func183 ntmps183 fun ac S=>anv fun _ aS=>anw S 2 [.bool n1,.slice a1 l.length c1] fun ac u b2 E3 hb4 S=>anw S 3 [.bool n2,.slice a2 m.length c2] fun ac u b5 E6 hb7 S=>anw S 4 Sx.zr fun ac u b8 E9 wH S=>anu<|aS _ _<|anv fun _ cZ=>adr S 4 [.mem 2 1,.mem 1 1] [(13,.slice a1 l.length c1),(15,.slice a2 m.length c2)] fun S=>anB S (some 16) (RP _ _ l m _ (h1.below S.E) (h2.below S.E) hl1 hl2) ?_;rintro e u ⟨g,rfl,hg,wE⟩;obtain⟨ag,cg,rfl⟩:=hg.shape;refine⟨_,rfl,wE,fun ac S=>?_⟩;refine anB S (some 17) (kE false hg (by omega)) ?_;rintro e u ⟨x,rfl,fg,Dv⟩;obtain⟨bg,dg,rfl⟩:=fg.shape;refine⟨_,rfl,Dv,fun ac S=>?_⟩;refine anw S 5 [.z,.sn] fun ac u b14 Ez hb16 S=>anC S 0 (off:=0) (cs:=[.z,.slice bg (Na.aj (Nat.gcd (Na.val l) (Na.val m))).length dg]) rfl (fun u C17 S=>?_);have uY:=anF Ez C17 (by omega);refine anu<|cZ _ _<|anV fun _ iU=>anv fun _ jk=>adr S 1 [.mem 2 0] [(18,.agg #[.bool n2,.slice a2 m.length c2])] fun S=>anE S 19 (qp n2 _ m _ (h2.below S.E) (by omega)) fun ac u uh S=>adr S 1 [] [(20,.bool ((sW n2 (Na.val m))<0))] fun S=>anu (jk _ _ ?_);refine anx S (fun hc22=>?_) (fun hc22=>?_)
 ·have hn:n2=true:=(aai hm).symm.trans hc22;refine anv fun _ qL=>adr S 1 [.mem 3 0] [(21,.agg #[.bool n1,.slice a1 l.length c1])] fun S=>anB S (some 22) (Gx n1 _ l _ (h1.below S.E) (by omega)) ?_;rintro e u ⟨x,rfl,nx,MQ⟩;obtain⟨bnx,dnx,rfl⟩:=nx.shape;refine⟨_,rfl,MQ,fun ac S=>?_⟩;have X26:=S.bx 3;refine anC S 3 (off:=0) (cs:=[.bool (!n1&&decide (0<Na.val l)),.slice bnx (Na.aj (Na.val l)).length dnx]) rfl (fun u X6 S=>?_);have QW:=aH.dM (fg.ext (Ext.trans' uY (Ext.trans' uh MQ))) X6 X26;have aeu:=aH.dM nx X6 X26;refine anu<|qL _ _<|an3<|adr S 1 [.mem 2 0] [(23,.agg #[.bool n2,.slice a2 m.length c2])] fun S=>anB S (some 24) (Gx n2 _ m _ (h2.below S.E) (by omega)) ?_;rintro e u ⟨x,rfl,ny,BZ⟩;obtain⟨bny,dny,rfl⟩:=ny.shape;refine⟨_,rfl,BZ,fun ac S=>?_⟩;have X31:=S.bx 2;refine anC S 2 (off:=0) (cs:=[.bool (!n2&&decide (0<Na.val m)),.slice bny (Na.aj (Na.val m)).length dny]) rfl (fun u C30 S=>?_);have Oj:=aH.dM (QW.ext BZ) C30 X31;have CS:=aH.dM (aeu.ext BZ) C30 X31;have ZB:=aH.dM ny C30 X31;refine anu<|iU _ _<|anv fun _ nZ=>adr S 2 [.mem 3 0,.mem 0 0] [(26,.agg #[.bool (!n1&&decide (0<Na.val l)),.slice bnx (Na.aj (Na.val l)).length dnx]),(27,.agg #[.z,.slice bg (Na.aj (Nat.gcd (Na.val l) (Na.val m))).length dg])] fun S=>anB S (some 28) (lV (!n1&&decide (0<Na.val l)) _ _ (Na.aj (Na.val l)) (Na.aj (Nat.gcd (Na.val l) (Na.val m))) _ (nH CS) (nH Oj) (by rw[Na.aJ]; exact hG) (by simp only[Na.aJ]; exact Nat.mod_eq_zero_of_dvd (Nat.gcd_dvd_left _ _)) (aoE (bK l) hl1) hGl) ?_;rintro e u ⟨x,y,rfl,fx,rfx,Xf⟩;simp only[Na.aJ]at fx;obtain⟨UN,UO,rfl⟩:=fx.shape;obtain⟨aaj,aak,rfl⟩:=rfx.shape;have ag0:=S.E.size;refine⟨_,rfl,Xf,fun ac S=>?_⟩;refine adr S 4 [] [(29,.agg #[.bool ((!n1&&decide (0<Na.val l))&&decide (0<(Na.val l/(Nat.gcd (Na.val l) (Na.val m))))),.slice UN (Na.aj (Na.val l/(Nat.gcd (Na.val l) (Na.val m)))).length UO]),(30,.agg #[.z,.slice aaj (Na.aj 0).length aak]),(31,.i 0)] fun S=>anw S 6 [.z,.sn] fun ac u b37 E38 am6 S=>anw S 7 [.z,.sn] fun ac u b40 E41 aiD S=>anC S 1 (off:=0) (cs:=[.bool ((!n1&&decide (0<Na.val l))&&decide (0<(Na.val l/(Nat.gcd (Na.val l) (Na.val m))))),.slice UN (Na.aj (Na.val l/(Nat.gcd (Na.val l) (Na.val m)))).length UO]) rfl (fun u C43 S=>?_);have Vy:=anF (Ext.trans' Xf (Ext.trans' E38 E41)) C43 (by have:=Xf.size; omega);have E45:=anF (Ext.trans' Xf (Ext.trans' E38 E41)) C43 (by have:=Xf.size; omega);have E46:=anF (Ext.trans' E38 E41) C43 (by omega);have X48:=S.bx 0;refine anC S 0 (off:=0) (cs:=[.z,.slice aaj (Na.aj 0).length aak]) rfl (fun u C47 S=>?_);have aeQ:=aH.dM (Oj.ext Vy) C47 X48;have aeR:=aH.dM (ZB.ext E45) C47 X48;have ab5:=aH.dM (fx.ext E46) C47 X48;refine adr S 1 [] [] fun S=>anu<|nZ _ _<|anv fun _ KJ=>adr S 2 [.mem 4 0,.mem 2 0] [(33,.agg #[.bool (!n2&&decide (0<Na.val m)),.slice bny (Na.aj (Na.val m)).length dny]),(34,.agg #[.z,.slice bg (Na.aj (Nat.gcd (Na.val l) (Na.val m))).length dg])] fun S=>anB S (some 35) (lV (!n2&&decide (0<Na.val m)) _ _ (Na.aj (Na.val m)) (Na.aj (Nat.gcd (Na.val l) (Na.val m))) _ (nH aeR) (nH aeQ) (by rw[Na.aJ]; exact hG) (by simp only[Na.aJ]; exact Nat.mod_eq_zero_of_dvd (aqh _ _)) (aoE (bK m) hl2) hGl) ?_;rintro e u ⟨x,y,rfl,fy,rfy,E53⟩;simp only[Na.aJ]at fy;obtain⟨RS,RU,rfl⟩:=fy.shape;obtain⟨aal,aam,rfl⟩:=rfy.shape;have ag1:=S.E.size;refine⟨_,rfl,E53,fun ac S=>?_⟩;refine adr S 4 [] [(36,.agg #[.bool ((!n2&&decide (0<Na.val m))&&decide (0<(Na.val m/(Nat.gcd (Na.val l) (Na.val m))))),.slice RS (Na.aj (Na.val m/(Nat.gcd (Na.val l) (Na.val m)))).length RU]),(37,.agg #[.z,.slice aal (Na.aj 0).length aam]),(38,.i 0)] fun S=>anw S 9 [.z,.sn] fun ac u b54 E55 abY S=>anw S 10 [.z,.sn] fun ac u b57 E58 am7 S=>anC S 1 (off:=0) (cs:=[.bool ((!n2&&decide (0<Na.val m))&&decide (0<(Na.val m/(Nat.gcd (Na.val l) (Na.val m))))),.slice RS (Na.aj (Na.val m/(Nat.gcd (Na.val l) (Na.val m)))).length RU]) rfl (fun u C60 S=>?_);have E61:=anF (Ext.trans' E53 (Ext.trans' E55 E58)) C60 (by have:=E53.size; omega);have E62:=anF (Ext.trans' E55 E58) C60 (by omega);have X64:=S.bx 0;refine anC S 0 (off:=0) (cs:=[.z,.slice aal (Na.aj 0).length aam]) rfl (fun u C63 S=>?_);have ajA:=aH.dM (ab5.ext E61) C63 X64;have ajB:=aH.dM (fy.ext E62) C63 X64;refine adr S 1 [] [] fun S=>anu<|KJ _ _<|anv fun _ ZQ=>adr S 3 [.mem 3 0,.mem 1 0] [(41,.agg #[.bool ((!n1&&decide (0<Na.val l))&&decide (0<(Na.val l/(Nat.gcd (Na.val l) (Na.val m))))),.slice UN (Na.aj (Na.val l/(Nat.gcd (Na.val l) (Na.val m)))).length UO,.bool ((!n2&&decide (0<Na.val m))&&decide (0<(Na.val m/(Nat.gcd (Na.val l) (Na.val m))))),.slice RS (Na.aj (Na.val m/(Nat.gcd (Na.val l) (Na.val m)))).length RU])] (fun S=>?_);have X69:=S.bx 5;refine anC S 5 (off:=0) (cs:=[.bool ((!n1&&decide (0<Na.val l))&&decide (0<(Na.val l/(Nat.gcd (Na.val l) (Na.val m))))),.slice UN (Na.aj (Na.val l/(Nat.gcd (Na.val l) (Na.val m)))).length UO,.bool ((!n2&&decide (0<Na.val m))&&decide (0<(Na.val m/(Nat.gcd (Na.val l) (Na.val m))))),.slice RS (Na.aj (Na.val m/(Nat.gcd (Na.val l) (Na.val m)))).length RU]) rfl (fun u C68 S=>?_);have aev:=aH.dM ajA C68 X69;have ajC:=aH.dM ajB C68 X69;refine anu<|ZQ _ _<|anS S 5 results183 rfl (v := .agg #[.bool ((!n1&&decide (0<Na.val l))&&decide (0<(Na.val l/(Nat.gcd (Na.val l) (Na.val m))))),.slice UN (Na.aj (Na.val l/(Nat.gcd (Na.val l) (Na.val m)))).length UO,.bool ((!n2&&decide (0<Na.val m))&&decide (0<(Na.val m/(Nat.gcd (Na.val l) (Na.val m))))),.slice RS (Na.aj (Na.val m/(Nat.gcd (Na.val l) (Na.val m)))).length RU]) ?_;exact⟨_,rfl,OT (aH.mono aev (by omega)) (aH.mono ajC (by omega)) (by rw[OU _ _ _ _ hm,hn]; rfl) (by rw[hn]; rfl),S.E⟩
 have hn:n2=false:=(aai hm).symm.trans hc22;refine anZ<|iU _ _<|anv fun _ ZG=>adr S 2 [.mem 3 0,.mem 0 0] [(26,.agg #[.bool n1,.slice a1 l.length c1]),(27,.agg #[.z,.slice bg (Na.aj (Nat.gcd (Na.val l) (Na.val m))).length dg])] fun S=>anB S (some 28) (lV n1 _ _ l (Na.aj (Nat.gcd (Na.val l) (Na.val m))) _ (h1.below S.E) (nH (fg.ext (Ext.trans' uY uh))) (by rw[Na.aJ]; exact hG) (by simp only[Na.aJ]; exact Nat.mod_eq_zero_of_dvd (Nat.gcd_dvd_left _ _)) hl1 hGl) ?_;rintro e u ⟨x,y,rfl,fx,rfx,E73⟩;simp only[Na.aJ]at fx;obtain⟨UN,UO,rfl⟩:=fx.shape;obtain⟨aaj,aak,rfl⟩:=rfx.shape;have ag0:=S.E.size;refine⟨_,rfl,E73,fun ac S=>?_⟩;refine adr S 4 [] [(29,.agg #[.bool (n1&&decide (0<(Na.val l/(Nat.gcd (Na.val l) (Na.val m))))),.slice UN (Na.aj (Na.val l/(Nat.gcd (Na.val l) (Na.val m)))).length UO]),(30,.agg #[.z,.slice aaj (Na.aj 0).length aak]),(31,.i 0)] fun S=>anw S 6 [.z,.sn] fun ac u b74 E75 am8 S=>anw S 7 [.z,.sn] fun ac u b77 E78 aiT S=>anC S 1 (off:=0) (cs:=[.bool (n1&&decide (0<(Na.val l/(Nat.gcd (Na.val l) (Na.val m))))),.slice UN (Na.aj (Na.val l/(Nat.gcd (Na.val l) (Na.val m)))).length UO]) rfl (fun u C80 S=>?_);have E81:=anF (Ext.trans' uY (Ext.trans' uh (Ext.trans' E73 (Ext.trans' E75 E78)))) C80 (by have:=(Ext.trans' uY (Ext.trans' uh E73)).size; omega);have E82:=anF (Ext.trans' E75 E78) C80 (by omega);have X84:=S.bx 0;refine anC S 0 (off:=0) (cs:=[.z,.slice aaj (Na.aj 0).length aak]) rfl (fun u C83 S=>?_);have aey:=aH.dM (fg.ext E81) C83 X84;have aez:=aH.dM (fx.ext E82) C83 X84;refine adr S 1 [] [] fun S=>anu<|ZG _ _<|anv fun _ ace=>adr S 2 [.mem 4 0,.mem 2 0] [(33,.agg #[.bool n2,.slice a2 m.length c2]),(34,.agg #[.z,.slice bg (Na.aj (Nat.gcd (Na.val l) (Na.val m))).length dg])] fun S=>anB S (some 35) (lV n2 _ _ m (Na.aj (Nat.gcd (Na.val l) (Na.val m))) _ (h2.below S.E) (nH aey) (by rw[Na.aJ]; exact hG) (by simp only[Na.aJ]; exact Nat.mod_eq_zero_of_dvd (aqh _ _)) hl2 hGl) ?_;rintro e u ⟨x,y,rfl,fy,rfy,E88⟩;simp only[Na.aJ]at fy;obtain⟨RS,RU,rfl⟩:=fy.shape;obtain⟨aal,aam,rfl⟩:=rfy.shape;have ag1:=S.E.size;refine⟨_,rfl,E88,fun ac S=>?_⟩;refine adr S 4 [] [(36,.agg #[.bool (n2&&decide (0<(Na.val m/(Nat.gcd (Na.val l) (Na.val m))))),.slice RS (Na.aj (Na.val m/(Nat.gcd (Na.val l) (Na.val m)))).length RU]),(37,.agg #[.z,.slice aal (Na.aj 0).length aam]),(38,.i 0)] fun S=>anw S 9 [.z,.sn] fun ac u b89 Ye am9 S=>anw S 10 [.z,.sn] fun ac u b92 E93 ana S=>anC S 1 (off:=0) (cs:=[.bool (n2&&decide (0<(Na.val m/(Nat.gcd (Na.val l) (Na.val m))))),.slice RS (Na.aj (Na.val m/(Nat.gcd (Na.val l) (Na.val m)))).length RU]) rfl (fun u C95 S=>?_);have E96:=anF (Ext.trans' E88 (Ext.trans' Ye E93)) C95 (by have:=E88.size; omega);have E97:=anF (Ext.trans' Ye E93) C95 (by omega);have X99:=S.bx 0;refine anC S 0 (off:=0) (cs:=[.z,.slice aal (Na.aj 0).length aam]) rfl (fun u C98 S=>?_);have ag2:=aH.dM (aez.ext E96) C98 X99;have ag3:=aH.dM (fy.ext E97) C98 X99;refine adr S 1 [] [] fun S=>anu<|ace _ _<|anv fun _ ag4=>adr S 3 [.mem 3 0,.mem 1 0] [(41,.agg #[.bool (n1&&decide (0<(Na.val l/(Nat.gcd (Na.val l) (Na.val m))))),.slice UN (Na.aj (Na.val l/(Nat.gcd (Na.val l) (Na.val m)))).length UO,.bool (n2&&decide (0<(Na.val m/(Nat.gcd (Na.val l) (Na.val m))))),.slice RS (Na.aj (Na.val m/(Nat.gcd (Na.val l) (Na.val m)))).length RU])] (fun S=>?_);have ag5:=S.bx 5;refine anC S 5 (off:=0) (cs:=[.bool (n1&&decide (0<(Na.val l/(Nat.gcd (Na.val l) (Na.val m))))),.slice UN (Na.aj (Na.val l/(Nat.gcd (Na.val l) (Na.val m)))).length UO,.bool (n2&&decide (0<(Na.val m/(Nat.gcd (Na.val l) (Na.val m))))),.slice RS (Na.aj (Na.val m/(Nat.gcd (Na.val l) (Na.val m)))).length RU]) rfl (fun u ZT S=>?_);have ZI:=aH.dM ag2 ZT ag5;have ZJ:=aH.dM ag3 ZT ag5;refine anu<|ag4 _ _<|anS S 5 results183 rfl (v := .agg #[.bool (n1&&decide (0<(Na.val l/(Nat.gcd (Na.val l) (Na.val m))))),.slice UN (Na.aj (Na.val l/(Nat.gcd (Na.val l) (Na.val m)))).length UO,.bool (n2&&decide (0<(Na.val m/(Nat.gcd (Na.val l) (Na.val m))))),.slice RS (Na.aj (Na.val m/(Nat.gcd (Na.val l) (Na.val m)))).length RU]) ?_;exact⟨_,rfl,OT (aH.mono ZI (by omega)) (aH.mono ZJ (by omega)) (by rw[OU _ _ _ _ hm,hn]; rfl) (by rw[hn]; rfl),S.E⟩
end
section
set_option maxHeartbeats 1600000
set_option maxRecDepth 100000
open Go.RowKit
variable{α:Type}
theorem Gy{w w1:World}{A:Array Value}{ta tb:TypeId}{x0 x1 x2 x3:Value}(hb:Ext ((w.alloc (.cells A ta)).alloc (.cells #[x0,x1,x2,x3] tb)) w1) :
  (∀i,w1.cell? ⟨w.heap.size,i,none⟩=A[i]?)∧(∀i,w1.cell? ⟨w.heap.size+1,i,none⟩ = #[x0,x1,x2,x3][i]?)∧(∀i,w1.frozen? ⟨w.heap.size+1,i,none⟩=false)∧w.heap.size+1<w1.heap.size:=by
 refine⟨fun i=>?_,fun i=>?_,fun i=>?_,by have:=hb.size; simp at this; omega⟩
 ·rw[hb.cell (p:=⟨w.heap.size,i,none⟩) (by simp; omega)]; simp[go_sem]
 ·rw[hb.cell (p:=⟨w.heap.size+1,i,none⟩) (by simp)]; simp[go_sem]
 rw[hb.frozen (p:=⟨w.heap.size+1,i,none⟩) (by simp)]; simp[go_sem]
theorem qU(n1 n2:Bool)(s1 s2:Value)(l m:List UInt32)(w:World)(h1:aF w s1 l)(h2:aF w s2 m)(hl1:l.length≤5000000)(hl2:m.length≤5000000) :
  Calls prog 127 #[.agg #[.bool n1,s1,.bool n2,s2]] w fun e w'=>∃x,e = .returned x∧bP w.heap.size w' x (nrm n1 n2 (Na.val l) (Na.val m))∧Ext w w':=by
 obtain⟨a1,c1,rfl⟩:=h1.shape;obtain⟨a2,c2,rfl⟩:=h2.shape;have hb0:=(aG w (.cells #[.bool n1,.slice a1 l.length c1,.bool n2,.slice a2 m.length c2] 31)).alloc (by simp) (.cells #[.z,.sn,.z,.sn] 31);have hS:=qp n2 _ m _ (h2.below hb0) (by omega);have H:=anU (And.intro h1 h2);have HB0:=anU hb0;rcases aoJ (Na.val m)with hm | hm
 ·have hN:nrm n1 n2 (Na.val l) (Na.val m)=(false,0,1):=by unfold nrm; rw[an6 hm]
  rw[hN];rw[hm,show sW n2 0=0 from rfl]at hS;have HS:=anU hS;clear h1 h2 hb0 hm hN hS;go_enter func127,ntmps127
  go_wp2_with fail
  refine HS.out.mono ?_;rintro e w1 ⟨rfl,hb⟩;have HX:=anU (Ext.trans' HB0.out hb);have HY:=anU (oK 0 w1 (by decide));have HBB:=anU hb;clear hb HS;go_wp2_with fail
  refine HY.out.mono ?_;rintro e w2 ⟨x,rfl,hx,hb2⟩;obtain⟨b1,d1,b2,d2,rfl⟩:=hx.shape;obtain⟨-,r1,f1,hz⟩:=Gy (Ext.trans' HBB.out hb2);obtain⟨-,-,-,hz1⟩:=Gy HBB.out;have F:=anU hx;have HX2:=anU (Ext.trans' HX.out hb2);clear hx hb2 HY;go_wp2_with fail
  refine bodyPost_ret (v := .agg #[.z,.slice b1 (Na.aj 0).length d1,.z,.slice b2 (Na.aj 1).length d2]) (by simp[results,results127,go_sem,r1]) rfl ⟨_,rfl,?_,sJ HX2.out (by omega) _ _ _ _⟩;exact(F.out.KT hz1 _ _ _ _).mono (by omega)
 have hN:nrm n1 n2 (Na.val l) (Na.val m)=(nP n1 n2 (Na.val l) (Na.val m),Na.val l/Nat.gcd (Na.val l) (Na.val m),Na.val m/Nat.gcd (Na.val l) (Na.val m)):=by unfold nrm; rw[an0 (by omega)]
 obtain⟨⟨NG,X,Y⟩,hr⟩:∃r,nrm n1 n2 (Na.val l) (Na.val m)=r:=⟨_,rfl⟩;rw[hr];rw[hN]at hr;obtain⟨e1,hr⟩:=Prod.mk.inj hr;obtain⟨e2,e3⟩:=Prod.mk.inj hr;have E:=anU (And.intro e1 (And.intro e2 e3));clear e1 e2 e3 hr hN;have hs0:(sW n2 (Na.val m)==0)=false:=by
  rw[aog]; unfold sW; rw[an0 (by omega)]; cases n2<;>simp
 have HM:=anU hm;have HS:=anU hS;clear h1 h2 hb0 hm hS;go_enter func127,ntmps127
 go_wp2_with fail
 refine HS.out.mono ?_;rintro e w1 ⟨rfl,hb⟩;have hX:=Ext.trans' HB0.out hb;have HX:=anU hX;have hY:=y9 n1 n2 _ _ l m w1 (H.out.1.below hX) (H.out.2.below hX) HM.out hl1 hl2;rw[E.out.1,E.out.2.1,E.out.2.2]at hY;have HY:=anU hY;clear hY;have HBB:=anU hb;obtain⟨k0,-,-,-⟩:=Gy hb;clear hb HS hX;go_wp2_with fail
 refine HY.out.mono ?_;rintro e w2 ⟨x,rfl,hx,hb2⟩;obtain⟨b1,d1,b2,d2,rfl⟩:=hx.shape;obtain⟨-,r1,f1,hz⟩:=Gy (Ext.trans' HBB.out hb2);obtain⟨-,-,-,hz1⟩:=Gy HBB.out;have F:=anU hx;have HX2:=anU (Ext.trans' HX.out hb2);clear hx hb2 HY k0;go_wp2_with fail
 refine bodyPost_ret (v := .agg #[.bool NG,.slice b1 (Na.aj X).length d1,.z,.slice b2 (Na.aj Y).length d2]) (by simp[results,results127,go_sem,r1]) rfl ⟨_,rfl,?_,sJ HX2.out (by omega) _ _ _ _⟩;exact(F.out.KT hz1 _ _ _ _).mono (show w.heap.size≤w1.heap.size by omega)
theorem DV(n1 n2:Bool)(s1 s2:Value)(l m:List UInt32)(w:World)(h1:aF w s1 l)(h2:aF w s2 m) :
  Calls prog 313 #[.agg #[.bool n1,s1],.agg #[.bool n2,s2]] w fun e w'=>e = .returned (.bool (n1==n2&&l==m))∧Ext w w':=by
 obtain⟨a1,c1,rfl⟩:=h1.shape;obtain⟨a2,c2,rfl⟩:=h2.shape;have hl1:=h1.len;have hl2:=h2.len;unfold maxLen at hl1 hl2;have HB0:=anU ((aG w (.cells #[.bool n1,.slice a1 l.length c1] 29)).alloc (by simp) (.cells #[.bool n2,.slice a2 m.length c2] 29));have H1:=anU h1;have H2:=anU h2;clear h1 h2;by_cases hn:n1=n2
 ·subst hn;by_cases hl:l.length=m.length
  ·have HL:=anU hl;obtain⟨W,hW⟩:∃W,((w.alloc (.cells #[.bool n1,.slice a1 l.length c1] 29)).alloc (.cells #[.bool n1,.slice a2 m.length c2] 29))=W:=⟨_,rfl⟩;have hK:∀w1,Ext W w1→w1.cell? ⟨w.heap.size,1,none⟩=some (.slice a1 l.length c1)∧w1.cell? ⟨w.heap.size+1,1,none⟩=some (.slice a2 m.length c2):=by
    intro w1 hb;subst hW;constructor
    ·rw[hb.cell (p:=⟨w.heap.size,1,none⟩) (by simp; omega)]; simp[go_sem]
    rw[hb.cell (p:=⟨w.heap.size+1,1,none⟩) (by simp)]; simp[go_sem]
   have HK:=anU hK;rw[hW]at HB0;have HW:=anU hW;have hne:((l.length:Int) != (m.length:Int))=false:=by rw[bne_eq_false_iff_eq]; omega
   have hml:m.length≤l.length:=Nat.le_of_eq hl.symm;have hlm:l.length≤m.length:=Nat.le_of_eq hl;clear hl hK hW;cases n1;all_goals
    go_enter func313,ntmps313
    go_wp2_with fail
    rw[HW.out]
    clear hne
    go_loopw [5] (fun i wr=>∃k:Nat,i = .i k∧k≤l.length∧l.take k=m.take k∧Ext W wr) (fun i _=>l.length-(intOf i).toNat)
    case atStart=>exact⟨0,rfl,aoa _,rfl,aor _ _⟩
    case round =>
     obtain⟨k,rfl,hk,ht,hbel⟩:=hrel
     have HT:=anU ht
     clear ht
     obtain⟨q1,q2⟩:=HK.out wr hbel
     by_cases hlt:k<l.length
     ·obtain⟨bx,ox,cx,hxs,hbx,hlx,hmx,hcx⟩:=dK H1.out rfl (by omega)
      obtain⟨by',oy,cy,hys,hby,hly,hmy,hcy⟩:=dK H2.out rfl (by omega)
      simp only[aoB]at hxs hys
      obtain⟨rfl,-,-⟩:=hxs
      obtain⟨rfl,-,-⟩:=hys
      have hkm:k<m.length:=by omega
      have hb:=Ext.trans' HB0.out hbel
      have r1:wr.cell? ⟨bx,ox+k,none⟩=some (aY l[k]):=by rw[hb.cell (p:=⟨bx,ox+k,none⟩) hbx]; exact hcx k hlt
      have r2:wr.cell? ⟨by',oy+k,none⟩=some (aY m[k]):=by rw[hb.cell (p:=⟨by',oy+k,none⟩) hby]; exact hcy k hkm
      have hs1:=take_snoc l k hlt
      have hs2:=take_snoc m k hkm
      clear hcx hcy hb
      have hkI:(k:Int)<(m.length:Int):=by omega
      by_cases he:l[k]=m[k]
      ·have hnx:l.take (k+1)=m.take (k+1):=by rw[hs1,hs2,HT.out,he]
       rw[he]at r1
       have HN:=anU hnx
       generalize m[k]=d at *
       clear hs1 hs2 hnx he
       go_wp2_with fail
       go_quiet (fail)
       go_wp2_with fail
       go_roundw
       case rel=>exact⟨k+1,by go_num,by omega,HN.out,below_drewN hbel _⟩
       case measure=>simp[intOf]; omega
      ·have hx:((l[k].toNat:Int) != (m[k].toNat:Int))=true:=by
        rw[bne_iff_ne]; intro e; exact he (ao5.1 (by omega))
       have hr:l≠m:=fun e=>he (by subst e; rfl)
       have HR:Hid ((l==m)=false):=aog.2 hr
       generalize l[k]=d1 at *
       generalize m[k]=d2 at *
       clear hs1 hs2 he hr
       go_wp2_with fail
       go_quiet (fail)
       go_wp2_with fail
       go_ret
       exact⟨by rw[HR.out]; rfl,below_drewN (Ext.trans' HB0.out hbel) _⟩
     ·obtain rfl:k=l.length:=by omega
      have hr:l=m:=by
       have:=HT.out
       rw[aoQ,HL.out,aoQ]at this; exact this
      have HR:Hid ((l==m)=true):=aoo.2 hr
      clear hr
      go_wp2_with fail
      go_ret
      exact⟨by rw[HR.out]; rfl,Ext.trans' HB0.out hbel⟩
  have hne:((l.length:Int) != (m.length:Int))=true:=by rw[bne_iff_ne]; omega
  have hr:Hid ((n1==n1&&l==m)=false):=by
   show _=_;rw[apS,apz,aog]; exact fun e=>hl (by rw[e])
  clear hl;cases n1;all_goals
   go_enter func313,ntmps313
   go_wp2_with fail
   go_ret
   exact⟨by rw[hr.out]; rfl,HB0.out⟩
 have hr:Hid ((n1==n2&&l==m)=false):=by
  show _=_;rw[aog.2 hn,apN]
 cases n1<;>cases n2
 ·exact absurd rfl hn
 case' true.true=>exact absurd rfl hn
 all_goals
  clear hn
  go_enter func313,ntmps313
  go_wp2_with fail
  go_ret
  exact⟨by rw[hr.out]; rfl,HB0.out⟩
end
end Go.Proofs.YtapmgonflgahbaaGreatDoor
