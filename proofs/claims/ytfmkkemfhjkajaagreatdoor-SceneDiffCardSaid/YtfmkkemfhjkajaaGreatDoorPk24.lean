/- Walks of the references on integers and rational -/
import Derived.Test.YtfmkkemfhjkajaaGreatDoorPk23
set_option linter.unusedVariables false
namespace Go.Proofs.YtfmkkemfhjkajaaGreatDoor
open _root_.Go.Proofs.Tryz
section
set_option maxHeartbeats 1600000
set_option maxRecDepth 100000
open Go.RowKit
variable{α:Type}
theorem _root_.Go.Sx.agx{P:Program}{w0 w:World}{a:Act}{n:Nat}{l:List (Nat×Value)}{bl:List (Nat×List Value)}{vs:List Sx.iM}(S:Sx.St w0 a w n l bl vs){fn:Func}{R:Ending→World→Prop}(i j:Nat){r s t b c:Nat}{ty:TypeId}{A B:List Value}{u v x:Value}(hr:fn.results = #[.cell r ty,.cell s ty,.tmp t])(hi:bl[i]?=some (b,A))(hj:bl[j]?=some (c,B))(h:R (.returned (.tuple #[u,v,x])) w)
  (h1:Vp.ev l (.tmp r)=some (.pointer (some ⟨b,0,none⟩)):=by kernel_rfl) (h2:Vp.ev l (.tmp s)=some (.pointer (some ⟨c,0,none⟩)):=by kernel_rfl) (h3:Vp.ev l (.tmp t)=some x:=by kernel_rfl) (l1:Sx.YI P ty A=some u:=by kernel_rfl) (l2:Sx.YI P ty B=some v:=by kernel_rfl):bodyPost P fn R .ret a w:=by
 refine⟨S.s.defers,_,?_,h⟩;have e1:=S.s.ev h1;have e2:=S.s.ev h2;have e3:=S.s.ev h3;unfold results;rw[hr];simp only[Act.eval,Array.getD_eq_getD_getElem?]at e1 e2 e3;simp[e1,e2,e3,asAddr,S.var hi l1,S.var hj l2]
theorem Qn{s:Value}{m:List UInt32}{w:World}(h:aG w s m)(hm:0<Na.val m)(hl:m.length≤100000000) :
  Calls prog 186 #[.agg #[.bool false,s]] w fun e w'=>e = .returned (.i 1)∧Ext w w':=by
 have hc:=qZ false _ m w h hl;rw[show uq false (Na.val m)=1 from by unfold uq; rw[anq (by omega)]; rfl]at hc;exact hc
theorem Nc{b:Bool}{s:Value}{w:World}(h:aG w s (Na.au 0)) :
  Calls prog 186 #[.agg #[.bool b,s]] w fun e w'=>e = .returned (.i 0)∧Ext w w':=by
 have hc:=qZ b _ _ w h (by simp[Na.nT]);rw[Na.aI,show uq b 0=0 from rfl]at hc;exact hc
theorem nO{base:Nat}{w:World}{b neg:Bool}{s:Value}{n:Nat}(h:aH base w (.agg #[.bool b,s]) neg n):aG w s (Na.au n):=by
 obtain⟨t,e,hs,_⟩:=h;simp only[ao1,ao2,aog,and_true]at e;obtain⟨-,rfl⟩:=e;exact hs
theorem aH.flag{base:Nat}{w:World}{v:Value}{n n':Bool}{a:Nat}(h:aH base w v n a)(e:n=n'):aH base w v n' a:=e▸h
theorem Qo{base:Nat}{w:World}{b c n1 n2 neg:Bool}{s t:Value}{x y:Nat}(h:aH base w (.agg #[.bool b,s]) n1 x)(k:aH base w (.agg #[.bool c,t]) n2 y)(e1:n1=neg)(e2:n2=false):aA base w (.agg #[.bool b,s,.bool c,t]) neg x y:=by
 obtain⟨s',e,hs,fs⟩:=h;obtain⟨t',e',ht,ft⟩:=k;simp only[ao1,ao2,aog,Value.bool.injEq,and_true]at e e';obtain⟨rfl,rfl⟩:=e;obtain⟨rfl,rfl⟩:=e';exact⟨_,_,by rw[e1,e2],hs,ht,fs,ft⟩
theorem abN{n:Bool}{b:Nat}(hb:0<b):decide (uq n b<0)=n:=by
 unfold uq;rw[anq (by omega)];cases n<;>simp
theorem Qp(n1 n2:Bool)(a b:Nat)(hb:0<b):oq n1 n2 a b=((if n2 then !n1&&decide (0<a)else n1)&&decide (0<a/Nat.gcd a b)):=by
 unfold oq;rcases aof a with h | h
 ·subst h; simp
 congr 1;unfold uq;rw[anq (show ¬a=0 by omega),anq (show ¬b=0 by omega)];cases n1<;>cases n2<;>simp[h]
theorem lX(n1:Bool)(s t:Value)(l m:List UInt32)(w:World)(h1:aG w s l)(h2:aG w t m)(hm:0<Na.val m)(hdvd:Na.val l%Na.val m=0)(hl1:l.length≤5000000)(hl2:m.length≤5000000) :
  Calls prog 220 #[.agg #[.bool n1,s],.agg #[.bool false,t]] w fun e w'=>∃x y,e = .returned (.tuple #[x,y,.i 0]) ∧
   aH w.heap.size w' x (n1&&decide (0<Na.val l/Na.val m)) (Na.val l/Na.val m)∧aH w.heap.size w' y false 0∧Ext w w':=by
 obtain⟨a1,c1,rfl⟩:=h1.shape;obtain⟨a2,c2,rfl⟩:=h2.shape;refine am0 func220 ntmps220 fun ac S=>amW fun _ aO=>amY S 2 [.bool n1,.slice a1 l.length c1] fun ac u b2 E3 hb4 S=>amY S 3 [.bool false,.slice a2 m.length c2] fun ac u b5 E6 hb7 S=>amY S 4 [.bool false,.slice none 0 0] fun ac u b8 E9 xY S=>amY S 5 [.bool false,.slice none 0 0] fun ac u b11 Ed XM S=>adr S 1 [] [(6,.i 0)] fun S=>amV<|aO _ _<|anj fun _ gU=>amW fun _ gV=>adr S 1 [.mem 2 0] [(12,.agg #[.bool false,.slice a2 m.length c2])] fun S=>am3 S 13 (Qn (h2.below S.E) hm (by omega)) fun ac u Oq S=>adr S 1 [] [(14,.bool false)] fun S=>amV<|gV _ _<|ane S<|ano<|gU _ _<|amW fun _ iD=>adr S 4 [.mem 3 1,.mem 2 1] [(19,.slice a1 l.length c1),(21,.slice a2 m.length c2)] fun S=>am4 S (some 22) (zZ _ _ l m _ (h1.below S.E) (h2.below S.E) hm (by omega) (by omega)) ?_;rintro e u ⟨q,r,rfl,hq,hr,Dy⟩;have hq:aG _ _ _:=aZ hq;have hr:aG _ _ _:=aZ hr;rw[hdvd]at hr;obtain⟨aq,cq,rfl⟩:=hq.shape;obtain⟨ar,cr,rfl⟩:=hr.shape;refine⟨_,rfl,Dy,fun ac S=>?_⟩;refine adr S 7 [] [(7,.slice aq (Na.au (Na.val l/Na.val m)).length cq),(8,.slice ar (Na.au 0).length cr)] fun S=>amV<|iD _ _<|amW fun _ ji=>adr S 6 [.mem 3 0,.mem 2 0] [(30,.bool (!(n1==false))),(31,.slice aq (Na.au (Na.val l/Na.val m)).length cq)] fun S=>am4 S (some 32) (ku (!(n1==false)) hq (by have:=fZ (apj (Na.val l) (Na.val m)); have:=bF l; omega)) ?_;rintro e u ⟨x,rfl,fx,Eh⟩;obtain⟨WX,WY,rfl⟩:=fx.shape;have ahZ:=S.E.size;refine⟨_,rfl,Eh,fun ac S=>?_⟩;refine amY S 10 [.bool false,.slice none 0 0] fun ac u b21 SQ Jt S=>am1 S 0 (off:=0) (cs:=[.bool ((!(n1==false))&&decide (0<(Na.val l/Na.val m))),.slice WX (Na.au (Na.val l/Na.val m)).length WY]) rfl (fun u Oj S=>?_);have ZK:=am5 (Ext.trans' Eh SQ) Oj (by have:=Eh.size; omega);have ZE:=am5 (Ext.trans' Eh SQ) Oj (by have:=Eh.size; omega);have E27:=am5 SQ Oj (by omega);refine amV<|ji _ _<|amW fun _ kR=>adr S 3 [.mem 4 0] [(34,.bool n1),(35,.slice ar (Na.au 0).length cr)] fun S=>am4 S (some 36) (ku n1 (hr.below ZE) (by simp[Na.nT])) ?_;rintro e u ⟨x,rfl,fy,Dt⟩;obtain⟨UC,UD,rfl⟩:=fy.shape;have ah0:=S.E.size;refine⟨_,rfl,Dt,fun ac S=>?_⟩;refine amY S 11 [.bool false,.slice none 0 0] fun ac u b30 Fe Qb S=>am1 S 0 (off:=0) (cs:=[.bool (n1&&decide (0<0)),.slice UC (Na.au 0).length UD]) rfl (fun u Oo S=>?_);have PX:=am5 (Ext.trans' ZK (Ext.trans' Dt Fe)) Oo (by have:=(Ext.trans' ZK Dt).size; omega);have WE:=am5 (Ext.trans' ZE (Ext.trans' Dt Fe)) Oo (by have:=(Ext.trans' ZE Dt).size; omega);have Oh:=am5 (Ext.trans' E27 (Ext.trans' Dt Fe)) Oo (by have:=(Ext.trans' E27 Dt).size; omega);have Jl:=am5 Fe Oo (by omega);refine amV<|kR _ _<|anj fun _ jG=>amW fun _ uF=>am9 S 10 [.mem 5 0,.mem 4 0,.mem 0 0] [(_,_,(!(n1==false)),.i 0)] [(46,.bool ((!(n1==false))&&false))] ⟨fun u hC g=>Nc (b:=n1&&decide (0<0)) (nO (fy.ext (Ext.trans' Jl hC))),trivial⟩ fun ac u XK S=>amV (uF _ _ ?_);refine amX S (fun JE=>?_) (fun JE=>?_)
 ·simp at JE
 refine ano<|jG _ _<|anj (fun _ ql=>?_);have X44:=S.bx 3;refine Sx.ahY S 2 0 [.mem 1 0,.mem 0 0] [(54,.agg #[.bool (n1&&decide (0<0)),.slice UC (Na.au 0).length UD])] 3 (off:=0) (cs:=[.bool ((!(n1==false))&&decide (0<(Na.val l/Na.val m))),.slice WX (Na.au (Na.val l/Na.val m)).length WY]) rfl (fun ac u C43 S=>?_);have XF:=sV (hq.below (Ext.trans' PX XK)) C43 X44 rfl;have ad3:=sV (hr.below (Ext.trans' WE XK)) C43 X44 rfl;have afn:=aH.bG (fx.ext (Ext.trans' Oh XK)) C43 X44;have XH:=aH.bG (fy.ext (Ext.trans' Jl XK)) C43 X44;have X50:=S.bx 2;refine am1 S 2 (off:=0) (cs:=[.bool (n1&&decide (0<0)),.slice UC (Na.au 0).length UD]) rfl (fun u C49 S=>?_);have Jp:=sV XF C49 X50 rfl;have OC:=sV ad3 C49 X50 rfl;have SE:=aH.bG afn C49 X50;have akR:=aH.bG XH C49 X50;refine adr S 1 [] [(6,.i 0)] fun S=>amV<|ql _ _<|anr ?_;refine Sx.agx S 3 2 results220 rfl rfl ⟨_,_,rfl,(aH.mono SE (by omega)).flag (by simp),(aH.mono akR (by omega)).flag (by simp),S.E⟩
theorem Ac(n1 n2:Bool)(s1 s2:Value)(l m:List UInt32)(w:World)(h1:aG w s1 l)(h2:aG w s2 m)(hm:0<Na.val m)(hl1:l.length≤5000000)(hl2:m.length≤5000000) :
  Calls prog 187 #[.agg #[.bool n1,s1],.agg #[.bool n2,s2]] w fun e w'=>∃x,e = .returned x ∧
   aA w.heap.size w' x (oq n1 n2 (Na.val l) (Na.val m)) (Na.val l/Nat.gcd (Na.val l) (Na.val m)) (Na.val m/Nat.gcd (Na.val l) (Na.val m))∧Ext w w':=by
 obtain⟨a1,c1,rfl⟩:=h1.shape;obtain⟨a2,c2,rfl⟩:=h2.shape;have hG:0<(Nat.gcd (Na.val l) (Na.val m)):=Nat.gcd_pos_of_pos_right _ hm;have hGl:(Na.au (Nat.gcd (Na.val l) (Na.val m))).length≤5000000:=by have:=fZ (Nat.le_of_dvd hm (apX (Na.val l) (Na.val m))); have:=bF m; omega
 refine am0 func187 ntmps187 fun ac S=>amW fun _ aO=>amY S 2 [.bool n1,.slice a1 l.length c1] fun ac u b2 E3 hb4 S=>amY S 3 [.bool n2,.slice a2 m.length c2] fun ac u b5 E6 hb7 S=>amY S 4 Sx.zr fun ac u b8 E9 xY S=>amV<|aO _ _<|amW fun _ bW=>adr S 4 [.mem 2 1,.mem 1 1] [(13,.slice a1 l.length c1),(15,.slice a2 m.length c2)] fun S=>am4 S (some 16) (Uy _ _ l m _ (h1.below S.E) (h2.below S.E) hl1 hl2) ?_;rintro e u ⟨g,rfl,hg,Ed⟩;obtain⟨ag,cg,rfl⟩:=hg.shape;refine⟨_,rfl,Ed,fun ac S=>?_⟩;refine am4 S (some 17) (ku false hg (by omega)) ?_;rintro e u ⟨x,rfl,fg,Dn⟩;obtain⟨bg,dg,rfl⟩:=fg.shape;refine⟨_,rfl,Dn,fun ac S=>?_⟩;refine amY S 5 [.bool false,.slice none 0 0] fun ac u b14 TU hb16 S=>am1 S 0 (off:=0) (cs:=[.bool false,.slice bg (Na.au (Nat.gcd (Na.val l) (Na.val m))).length dg]) rfl (fun u C17 S=>?_);have Dy:=am5 TU C17 (by omega);refine amV<|bW _ _<|anj fun _ ji=>amW fun _ jo=>adr S 1 [.mem 2 0] [(18,.agg #[.bool n2,.slice a2 m.length c2])] fun S=>am3 S 19 (qZ n2 _ m _ (h2.below S.E) (by omega)) fun ac u ES S=>adr S 1 [] [(20,.bool ((uq n2 (Na.val m))<0))] fun S=>amV (jo _ _ ?_);refine amX S (fun hc22=>?_) (fun hc22=>?_)
 ·have hn:n2=true:=(abN hm).symm.trans hc22;refine amW fun _ oO=>adr S 1 [.mem 3 0] [(21,.agg #[.bool n1,.slice a1 l.length c1])] fun S=>am4 S (some 22) (Hz n1 _ l _ (h1.below S.E) (by omega)) ?_;rintro e u ⟨x,rfl,nx,Ul⟩;obtain⟨bnx,dnx,rfl⟩:=nx.shape;refine⟨_,rfl,Ul,fun ac S=>?_⟩;have X26:=S.bx 3;refine am1 S 3 (off:=0) (cs:=[.bool (!n1&&decide (0<Na.val l)),.slice bnx (Na.au (Na.val l)).length dnx]) rfl (fun u C25 S=>?_);have LW:=aH.bG (fg.ext (Ext.trans' Dy (Ext.trans' ES Ul))) C25 X26;have Sz:=aH.bG nx C25 X26;refine amV<|oO _ _<|ant<|adr S 1 [.mem 2 0] [(23,.agg #[.bool n2,.slice a2 m.length c2])] fun S=>am4 S (some 24) (Hz n2 _ m _ (h2.below S.E) (by omega)) ?_;rintro e u ⟨x,rfl,ny,Dt⟩;obtain⟨bny,dny,rfl⟩:=ny.shape;refine⟨_,rfl,Dt,fun ac S=>?_⟩;have X31:=S.bx 2;refine am1 S 2 (off:=0) (cs:=[.bool (!n2&&decide (0<Na.val m)),.slice bny (Na.au (Na.val m)).length dny]) rfl (fun u C30 S=>?_);have SK:=aH.bG (LW.ext Dt) C30 X31;have Dq:=aH.bG (Sz.ext Dt) C30 X31;have SL:=aH.bG ny C30 X31;refine amV<|ji _ _<|amW fun _ nI=>adr S 2 [.mem 3 0,.mem 0 0] [(26,.agg #[.bool (!n1&&decide (0<Na.val l)),.slice bnx (Na.au (Na.val l)).length dnx]),(27,.agg #[.bool false,.slice bg (Na.au (Nat.gcd (Na.val l) (Na.val m))).length dg])] fun S=>am4 S (some 28) (lX (!n1&&decide (0<Na.val l)) _ _ (Na.au (Na.val l)) (Na.au (Nat.gcd (Na.val l) (Na.val m))) _ (nO Dq) (nO SK) (by rw[Na.aI]; exact hG) (by simp only[Na.aI]; exact Nat.mod_eq_zero_of_dvd (Nat.gcd_dvd_left _ _)) (anN (bF l) hl1) hGl) ?_;rintro e u ⟨x,y,rfl,fx,rfx,Oh⟩;simp only[Na.aI]at fx;obtain⟨WX,WY,rfl⟩:=fx.shape;obtain⟨abO,abP,rfl⟩:=rfx.shape;have ahZ:=S.E.size;refine⟨_,rfl,Oh,fun ac S=>?_⟩;refine adr S 4 [] [(29,.agg #[.bool ((!n1&&decide (0<Na.val l))&&decide (0<(Na.val l/(Nat.gcd (Na.val l) (Na.val m))))),.slice WX (Na.au (Na.val l/(Nat.gcd (Na.val l) (Na.val m)))).length WY]),(30,.agg #[.bool false,.slice abO (Na.au 0).length abP]),(31,.i 0)] fun S=>amY S 6 [.bool false,.slice none 0 0] fun ac u b37 E38 ah1 S=>amY S 7 [.bool false,.slice none 0 0] fun ac u b40 E41 akc S=>am1 S 1 (off:=0) (cs:=[.bool ((!n1&&decide (0<Na.val l))&&decide (0<(Na.val l/(Nat.gcd (Na.val l) (Na.val m))))),.slice WX (Na.au (Na.val l/(Nat.gcd (Na.val l) (Na.val m)))).length WY]) rfl (fun u C43 S=>?_);have E44:=am5 (Ext.trans' Oh (Ext.trans' E38 E41)) C43 (by have:=Oh.size; omega);have OT:=am5 (Ext.trans' Oh (Ext.trans' E38 E41)) C43 (by have:=Oh.size; omega);have E46:=am5 (Ext.trans' E38 E41) C43 (by omega);have X48:=S.bx 0;refine am1 S 0 (off:=0) (cs:=[.bool false,.slice abO (Na.au 0).length abP]) rfl (fun u ZH S=>?_);have OB:=aH.bG (SK.ext E44) ZH X48;have SC:=aH.bG (SL.ext OT) ZH X48;have Jp:=aH.bG (fx.ext E46) ZH X48;refine adr S 1 [] [] fun S=>amV<|nI _ _<|amW fun _ OM=>adr S 2 [.mem 4 0,.mem 2 0] [(33,.agg #[.bool (!n2&&decide (0<Na.val m)),.slice bny (Na.au (Na.val m)).length dny]),(34,.agg #[.bool false,.slice bg (Na.au (Nat.gcd (Na.val l) (Na.val m))).length dg])] fun S=>am4 S (some 35) (lX (!n2&&decide (0<Na.val m)) _ _ (Na.au (Na.val m)) (Na.au (Nat.gcd (Na.val l) (Na.val m))) _ (nO SC) (nO OB) (by rw[Na.aI]; exact hG) (by simp only[Na.aI]; exact Nat.mod_eq_zero_of_dvd (apX _ _)) (anN (bF m) hl2) hGl) ?_;rintro e u ⟨x,y,rfl,fy,rfy,E53⟩;simp only[Na.aI]at fy;obtain⟨UC,UD,rfl⟩:=fy.shape;obtain⟨abQ,abR,rfl⟩:=rfy.shape;have ah0:=S.E.size;refine⟨_,rfl,E53,fun ac S=>?_⟩;refine adr S 4 [] [(36,.agg #[.bool ((!n2&&decide (0<Na.val m))&&decide (0<(Na.val m/(Nat.gcd (Na.val l) (Na.val m))))),.slice UC (Na.au (Na.val m/(Nat.gcd (Na.val l) (Na.val m)))).length UD]),(37,.agg #[.bool false,.slice abQ (Na.au 0).length abR]),(38,.i 0)] fun S=>amY S 9 [.bool false,.slice none 0 0] fun ac u b54 RS aak S=>amY S 10 [.bool false,.slice none 0 0] fun ac u b57 E58 amw S=>am1 S 1 (off:=0) (cs:=[.bool ((!n2&&decide (0<Na.val m))&&decide (0<(Na.val m/(Nat.gcd (Na.val l) (Na.val m))))),.slice UC (Na.au (Na.val m/(Nat.gcd (Na.val l) (Na.val m)))).length UD]) rfl (fun u RN S=>?_);have E61:=am5 (Ext.trans' E53 (Ext.trans' RS E58)) RN (by have:=E53.size; omega);have E62:=am5 (Ext.trans' RS E58) RN (by omega);have X64:=S.bx 0;refine am1 S 0 (off:=0) (cs:=[.bool false,.slice abQ (Na.au 0).length abR]) rfl (fun u C63 S=>?_);have Z5:=aH.bG (Jp.ext E61) C63 X64;have Z7:=aH.bG (fy.ext E62) C63 X64;refine adr S 1 [] [] fun S=>amV<|OM _ _<|amW fun _ LY=>adr S 3 [.mem 3 0,.mem 1 0] [(41,.agg #[.bool ((!n1&&decide (0<Na.val l))&&decide (0<(Na.val l/(Nat.gcd (Na.val l) (Na.val m))))),.slice WX (Na.au (Na.val l/(Nat.gcd (Na.val l) (Na.val m)))).length WY,.bool ((!n2&&decide (0<Na.val m))&&decide (0<(Na.val m/(Nat.gcd (Na.val l) (Na.val m))))),.slice UC (Na.au (Na.val m/(Nat.gcd (Na.val l) (Na.val m)))).length UD])] (fun S=>?_);have X69:=S.bx 5;refine am1 S 5 (off:=0) (cs:=[.bool ((!n1&&decide (0<Na.val l))&&decide (0<(Na.val l/(Nat.gcd (Na.val l) (Na.val m))))),.slice WX (Na.au (Na.val l/(Nat.gcd (Na.val l) (Na.val m)))).length WY,.bool ((!n2&&decide (0<Na.val m))&&decide (0<(Na.val m/(Nat.gcd (Na.val l) (Na.val m))))),.slice UC (Na.au (Na.val m/(Nat.gcd (Na.val l) (Na.val m)))).length UD]) rfl (fun u C68 S=>?_);have agd:=aH.bG Z5 C68 X69;have akS:=aH.bG Z7 C68 X69;refine amV<|LY _ _<|ana S 5 results187 rfl (v := .agg #[.bool ((!n1&&decide (0<Na.val l))&&decide (0<(Na.val l/(Nat.gcd (Na.val l) (Na.val m))))),.slice WX (Na.au (Na.val l/(Nat.gcd (Na.val l) (Na.val m)))).length WY,.bool ((!n2&&decide (0<Na.val m))&&decide (0<(Na.val m/(Nat.gcd (Na.val l) (Na.val m))))),.slice UC (Na.au (Na.val m/(Nat.gcd (Na.val l) (Na.val m)))).length UD]) ?_;exact⟨_,rfl,Qo (aH.mono agd (by omega)) (aH.mono akS (by omega)) (by rw[Qp _ _ _ _ hm,hn]; rfl) (by rw[hn]; rfl),S.E⟩
 have hn:n2=false:=(abN hm).symm.trans hc22;refine ano<|ji _ _<|amW fun _ Jz=>adr S 2 [.mem 3 0,.mem 0 0] [(26,.agg #[.bool n1,.slice a1 l.length c1]),(27,.agg #[.bool false,.slice bg (Na.au (Nat.gcd (Na.val l) (Na.val m))).length dg])] fun S=>am4 S (some 28) (lX n1 _ _ l (Na.au (Nat.gcd (Na.val l) (Na.val m))) _ (h1.below S.E) (nO (fg.ext (Ext.trans' Dy ES))) (by rw[Na.aI]; exact hG) (by simp only[Na.aI]; exact Nat.mod_eq_zero_of_dvd (Nat.gcd_dvd_left _ _)) hl1 hGl) ?_;rintro e u ⟨x,y,rfl,fx,rfx,E73⟩;simp only[Na.aI]at fx;obtain⟨WX,WY,rfl⟩:=fx.shape;obtain⟨abO,abP,rfl⟩:=rfx.shape;have ahZ:=S.E.size;refine⟨_,rfl,E73,fun ac S=>?_⟩;refine adr S 4 [] [(29,.agg #[.bool (n1&&decide (0<(Na.val l/(Nat.gcd (Na.val l) (Na.val m))))),.slice WX (Na.au (Na.val l/(Nat.gcd (Na.val l) (Na.val m)))).length WY]),(30,.agg #[.bool false,.slice abO (Na.au 0).length abP]),(31,.i 0)] fun S=>amY S 6 [.bool false,.slice none 0 0] fun ac u b74 E75 amx S=>amY S 7 [.bool false,.slice none 0 0] fun ac u b77 E78 akm S=>am1 S 1 (off:=0) (cs:=[.bool (n1&&decide (0<(Na.val l/(Nat.gcd (Na.val l) (Na.val m))))),.slice WX (Na.au (Na.val l/(Nat.gcd (Na.val l) (Na.val m)))).length WY]) rfl (fun u C80 S=>?_);have E81:=am5 (Ext.trans' Dy (Ext.trans' ES (Ext.trans' E73 (Ext.trans' E75 E78)))) C80 (by have:=(Ext.trans' Dy (Ext.trans' ES E73)).size; omega);have E82:=am5 (Ext.trans' E75 E78) C80 (by omega);have X84:=S.bx 0;refine am1 S 0 (off:=0) (cs:=[.bool false,.slice abO (Na.au 0).length abP]) rfl (fun u C83 S=>?_);have aal:=aH.bG (fg.ext E81) C83 X84;have SH:=aH.bG (fx.ext E82) C83 X84;refine adr S 1 [] [] fun S=>amV<|Jz _ _<|amW fun _ adY=>adr S 2 [.mem 4 0,.mem 2 0] [(33,.agg #[.bool n2,.slice a2 m.length c2]),(34,.agg #[.bool false,.slice bg (Na.au (Nat.gcd (Na.val l) (Na.val m))).length dg])] fun S=>am4 S (some 35) (lX n2 _ _ m (Na.au (Nat.gcd (Na.val l) (Na.val m))) _ (h2.below S.E) (nO aal) (by rw[Na.aI]; exact hG) (by simp only[Na.aI]; exact Nat.mod_eq_zero_of_dvd (apX _ _)) hl2 hGl) ?_;rintro e u ⟨x,y,rfl,fy,rfy,E88⟩;simp only[Na.aI]at fy;obtain⟨UC,UD,rfl⟩:=fy.shape;obtain⟨abQ,abR,rfl⟩:=rfy.shape;have ah0:=S.E.size;refine⟨_,rfl,E88,fun ac S=>?_⟩;refine adr S 4 [] [(36,.agg #[.bool (n2&&decide (0<(Na.val m/(Nat.gcd (Na.val l) (Na.val m))))),.slice UC (Na.au (Na.val m/(Nat.gcd (Na.val l) (Na.val m)))).length UD]),(37,.agg #[.bool false,.slice abQ (Na.au 0).length abR]),(38,.i 0)] fun S=>amY S 9 [.bool false,.slice none 0 0] fun ac u b89 E90 amy S=>amY S 10 [.bool false,.slice none 0 0] fun ac u b92 E93 amA S=>am1 S 1 (off:=0) (cs:=[.bool (n2&&decide (0<(Na.val m/(Nat.gcd (Na.val l) (Na.val m))))),.slice UC (Na.au (Na.val m/(Nat.gcd (Na.val l) (Na.val m)))).length UD]) rfl (fun u C95 S=>?_);have E96:=am5 (Ext.trans' E88 (Ext.trans' E90 E93)) C95 (by have:=E88.size; omega);have E97:=am5 (Ext.trans' E90 E93) C95 (by omega);have X99:=S.bx 0;refine am1 S 0 (off:=0) (cs:=[.bool false,.slice abQ (Na.au 0).length abR]) rfl (fun u C98 S=>?_);have ah2:=aH.bG (SH.ext E96) C98 X99;have ah3:=aH.bG (fy.ext E97) C98 X99;refine adr S 1 [] [] fun S=>amV<|adY _ _<|amW fun _ ah4=>adr S 3 [.mem 3 0,.mem 1 0] [(41,.agg #[.bool (n1&&decide (0<(Na.val l/(Nat.gcd (Na.val l) (Na.val m))))),.slice WX (Na.au (Na.val l/(Nat.gcd (Na.val l) (Na.val m)))).length WY,.bool (n2&&decide (0<(Na.val m/(Nat.gcd (Na.val l) (Na.val m))))),.slice UC (Na.au (Na.val m/(Nat.gcd (Na.val l) (Na.val m)))).length UD])] (fun S=>?_);have ah5:=S.bx 5;refine am1 S 5 (off:=0) (cs:=[.bool (n1&&decide (0<(Na.val l/(Nat.gcd (Na.val l) (Na.val m))))),.slice WX (Na.au (Na.val l/(Nat.gcd (Na.val l) (Na.val m)))).length WY,.bool (n2&&decide (0<(Na.val m/(Nat.gcd (Na.val l) (Na.val m))))),.slice UC (Na.au (Na.val m/(Nat.gcd (Na.val l) (Na.val m)))).length UD]) rfl (fun u abG S=>?_);have abx:=aH.bG ah2 abG ah5;have aby:=aH.bG ah3 abG ah5;refine amV<|ah4 _ _<|ana S 5 results187 rfl (v := .agg #[.bool (n1&&decide (0<(Na.val l/(Nat.gcd (Na.val l) (Na.val m))))),.slice WX (Na.au (Na.val l/(Nat.gcd (Na.val l) (Na.val m)))).length WY,.bool (n2&&decide (0<(Na.val m/(Nat.gcd (Na.val l) (Na.val m))))),.slice UC (Na.au (Na.val m/(Nat.gcd (Na.val l) (Na.val m)))).length UD]) ?_;exact⟨_,rfl,Qo (aH.mono abx (by omega)) (aH.mono aby (by omega)) (by rw[Qp _ _ _ _ hm,hn]; rfl) (by rw[hn]; rfl),S.E⟩
end
section
set_option maxHeartbeats 1600000
set_option maxRecDepth 100000
open Go.RowKit
variable{α:Type}
theorem Ia{w w1:World}{A:Array Value}{ta tb:TypeId}{x0 x1 x2 x3:Value}(hb:Ext ((w.alloc (.cells A ta)).alloc (.cells #[x0,x1,x2,x3] tb)) w1) :
  (∀i,w1.cell? ⟨w.heap.size,i,none⟩=A[i]?)∧(∀i,w1.cell? ⟨w.heap.size+1,i,none⟩ = #[x0,x1,x2,x3][i]?)∧(∀i,w1.frozen? ⟨w.heap.size+1,i,none⟩=false)∧w.heap.size+1<w1.heap.size:=by
 refine⟨fun i=>?_,fun i=>?_,fun i=>?_,by have:=hb.size; simp at this; omega⟩
 ·rw[hb.cell (p:=⟨w.heap.size,i,none⟩) (by simp; omega)]; simp[go_sem]
 ·rw[hb.cell (p:=⟨w.heap.size+1,i,none⟩) (by simp)]; simp[go_sem]
 rw[hb.frozen (p:=⟨w.heap.size+1,i,none⟩) (by simp)]; simp[go_sem]
theorem zO(n1 n2:Bool)(s1 s2:Value)(l m:List UInt32)(w:World)(h1:aG w s1 l)(h2:aG w s2 m)(hl1:l.length≤5000000)(hl2:m.length≤5000000) :
  Calls prog 147 #[.agg #[.bool n1,s1,.bool n2,s2]] w fun e w'=>∃x,e = .returned x∧bI w.heap.size w' x (nrm n1 n2 (Na.val l) (Na.val m))∧Ext w w':=by
 obtain⟨a1,c1,rfl⟩:=h1.shape;obtain⟨a2,c2,rfl⟩:=h2.shape;have hb0:=(aS w (.cells #[.bool n1,.slice a1 l.length c1,.bool n2,.slice a2 m.length c2] 31)).alloc (by simp) (.cells #[.bool false,.slice none 0 0,.bool false,.slice none 0 0] 31);have hS:=qZ n2 _ m _ (h2.below hb0) (by omega);have H:=ank (And.intro h1 h2);have HB0:=ank hb0;rcases aof (Na.val m)with hm | hm
 ·have hN:nrm n1 n2 (Na.val l) (Na.val m)=(false,0,1):=by unfold nrm; rw[anv hm]
  rw[hN];rw[hm,show uq n2 0=0 from rfl]at hS;have HS:=ank hS;clear h1 h2 hb0 hm hN hS;go_enter func147,ntmps147
  go_wp2_with fail
  refine HS.out.mono ?_;rintro e w1 ⟨rfl,hb⟩;have HX:=ank (Ext.trans' HB0.out hb);have HY:=ank (pG 0 w1 (by decide));have HBB:=ank hb;clear hb HS;go_wp2_with fail
  refine HY.out.mono ?_;rintro e w2 ⟨x,rfl,hx,hb2⟩;obtain⟨b1,d1,b2,d2,rfl⟩:=hx.shape;obtain⟨-,r1,f1,hz⟩:=Ia (Ext.trans' HBB.out hb2);obtain⟨-,-,-,hz1⟩:=Ia HBB.out;have F:=ank hx;have HX2:=ank (Ext.trans' HX.out hb2);clear hx hb2 HY;go_wp2_with fail
  refine bodyPost_ret (v := .agg #[.bool false,.slice b1 (Na.au 0).length d1,.bool false,.slice b2 (Na.au 1).length d2]) (by simp[results,results147,go_sem,r1]) rfl ⟨_,rfl,?_,xB HX2.out (by omega) _ _ _ _⟩;exact(F.out.Nh hz1 _ _ _ _).mono (by omega)
 have hN:nrm n1 n2 (Na.val l) (Na.val m)=(oq n1 n2 (Na.val l) (Na.val m),Na.val l/Nat.gcd (Na.val l) (Na.val m),Na.val m/Nat.gcd (Na.val l) (Na.val m)):=by unfold nrm; rw[anq (by omega)]
 obtain⟨⟨NG,X,Y⟩,hr⟩:∃r,nrm n1 n2 (Na.val l) (Na.val m)=r:=⟨_,rfl⟩;rw[hr];rw[hN]at hr;obtain⟨e1,hr⟩:=Prod.mk.inj hr;obtain⟨e2,e3⟩:=Prod.mk.inj hr;have E:=ank (And.intro e1 (And.intro e2 e3));clear e1 e2 e3 hr hN;have hs0:(uq n2 (Na.val m)==0)=false:=by
  rw[anI]; unfold uq; rw[anq (by omega)]; cases n2<;>simp
 have HM:=ank hm;have HS:=ank hS;clear h1 h2 hb0 hm hS;go_enter func147,ntmps147
 go_wp2_with fail
 refine HS.out.mono ?_;rintro e w1 ⟨rfl,hb⟩;have hX:=Ext.trans' HB0.out hb;have HX:=ank hX;have hY:=Ac n1 n2 _ _ l m w1 (H.out.1.below hX) (H.out.2.below hX) HM.out hl1 hl2;rw[E.out.1,E.out.2.1,E.out.2.2]at hY;have HY:=ank hY;clear hY;have HBB:=ank hb;obtain⟨k0,-,-,-⟩:=Ia hb;clear hb HS hX;go_wp2_with fail
 refine HY.out.mono ?_;rintro e w2 ⟨x,rfl,hx,hb2⟩;obtain⟨b1,d1,b2,d2,rfl⟩:=hx.shape;obtain⟨-,r1,f1,hz⟩:=Ia (Ext.trans' HBB.out hb2);obtain⟨-,-,-,hz1⟩:=Ia HBB.out;have F:=ank hx;have HX2:=ank (Ext.trans' HX.out hb2);clear hx hb2 HY k0;go_wp2_with fail
 refine bodyPost_ret (v := .agg #[.bool NG,.slice b1 (Na.au X).length d1,.bool false,.slice b2 (Na.au Y).length d2]) (by simp[results,results147,go_sem,r1]) rfl ⟨_,rfl,?_,xB HX2.out (by omega) _ _ _ _⟩;exact(F.out.Nh hz1 _ _ _ _).mono (show w.heap.size≤w1.heap.size by omega)
theorem Ep(n1 n2:Bool)(s1 s2:Value)(l m:List UInt32)(w:World)(h1:aG w s1 l)(h2:aG w s2 m) :
  Calls prog 217 #[.agg #[.bool n1,s1],.agg #[.bool n2,s2]] w fun e w'=>e = .returned (.bool (n1==n2&&l==m))∧Ext w w':=by
 obtain⟨a1,c1,rfl⟩:=h1.shape;obtain⟨a2,c2,rfl⟩:=h2.shape;have hl1:=h1.len;have hl2:=h2.len;unfold maxLen at hl1 hl2;have HB0:=ank ((aS w (.cells #[.bool n1,.slice a1 l.length c1] 29)).alloc (by simp) (.cells #[.bool n2,.slice a2 m.length c2] 29));have H1:=ank h1;have H2:=ank h2;clear h1 h2;by_cases hn:n1=n2
 ·subst hn;by_cases hl:l.length=m.length
  ·have HL:=ank hl;obtain⟨W,hW⟩:∃W,((w.alloc (.cells #[.bool n1,.slice a1 l.length c1] 29)).alloc (.cells #[.bool n1,.slice a2 m.length c2] 29))=W:=⟨_,rfl⟩;have hK:∀w1,Ext W w1→w1.cell? ⟨w.heap.size,1,none⟩=some (.slice a1 l.length c1)∧w1.cell? ⟨w.heap.size+1,1,none⟩=some (.slice a2 m.length c2):=by
    intro w1 hb;subst hW;constructor
    ·rw[hb.cell (p:=⟨w.heap.size,1,none⟩) (by simp; omega)]; simp[go_sem]
    rw[hb.cell (p:=⟨w.heap.size+1,1,none⟩) (by simp)]; simp[go_sem]
   have HK:=ank hK;rw[hW]at HB0;have HW:=ank hW;have hne:((l.length:Int) != (m.length:Int))=false:=by rw[bne_eq_false_iff_eq]; omega
   have hml:m.length≤l.length:=Nat.le_of_eq hl.symm;have hlm:l.length≤m.length:=Nat.le_of_eq hl;clear hl hK hW;cases n1;all_goals
    go_enter func217,ntmps217
    go_wp2_with fail
    rw[HW.out]
    clear hne
    go_loopw [5] (fun i wr=>∃k:Nat,i = .i k∧k≤l.length∧l.take k=m.take k∧Ext W wr) (fun i _=>l.length-(intOf i).toNat)
    case atStart=>exact⟨0,rfl,anz _,rfl,anU _ _⟩
    case round =>
     obtain⟨k,rfl,hk,ht,hbel⟩:=hrel
     have HT:=ank ht
     clear ht
     obtain⟨q1,q2⟩:=HK.out wr hbel
     by_cases hlt:k<l.length
     ·obtain⟨bx,ox,cx,hxs,hbx,hlx,hmx,hcx⟩:=fF H1.out rfl (by omega)
      obtain⟨by',oy,cy,hys,hby,hly,hmy,hcy⟩:=fF H2.out rfl (by omega)
      simp only[anY]at hxs hys
      obtain⟨rfl,-,-⟩:=hxs
      obtain⟨rfl,-,-⟩:=hys
      have hkm:k<m.length:=by omega
      have hb:=Ext.trans' HB0.out hbel
      have r1:wr.cell? ⟨bx,ox+k,none⟩=some (aU l[k]):=by rw[hb.cell (p:=⟨bx,ox+k,none⟩) hbx]; exact hcx k hlt
      have r2:wr.cell? ⟨by',oy+k,none⟩=some (aU m[k]):=by rw[hb.cell (p:=⟨by',oy+k,none⟩) hby]; exact hcy k hkm
      have hs1:=take_snoc l k hlt
      have hs2:=take_snoc m k hkm
      clear hcx hcy hb
      have hkI:(k:Int)<(m.length:Int):=by omega
      by_cases he:l[k]=m[k]
      ·have hnx:l.take (k+1)=m.take (k+1):=by rw[hs1,hs2,HT.out,he]
       rw[he]at r1
       have HN:=ank hnx
       generalize m[k]=d at *
       clear hs1 hs2 hnx he
       go_wp2_with fail
       go_quiet (fail)
       go_wp2_with fail
       go_roundw
       case rel=>exact⟨k+1,by go_num,by omega,HN.out,below_drewN hbel _⟩
       case measure=>simp[intOf]; omega
      ·have hx:((l[k].toNat:Int) != (m[k].toNat:Int))=true:=by
        rw[bne_iff_ne]; intro e; exact he (aoX.1 (by omega))
       have hr:l≠m:=fun e=>he (by subst e; rfl)
       have HR:Hid ((l==m)=false):=anI.2 hr
       generalize l[k]=d1 at *
       generalize m[k]=d2 at *
       clear hs1 hs2 he hr
       go_wp2_with fail
       go_quiet (fail)
       go_wp2_with fail
       go_ret
       exact⟨by rw[HR.out]; rfl,below_drewN (Ext.trans' HB0.out hbel) _⟩
     ·obtain rfl:k=l.length:=by omega
      have hr:l=m:=by
       have:=HT.out
       rw[aoq,HL.out,aoq]at this; exact this
      have HR:Hid ((l==m)=true):=anO.2 hr
      clear hr
      go_wp2_with fail
      go_ret
      exact⟨by rw[HR.out]; rfl,Ext.trans' HB0.out hbel⟩
  have hne:((l.length:Int) != (m.length:Int))=true:=by rw[bne_iff_ne]; omega
  have hr:Hid ((n1==n1&&l==m)=false):=by
   show _=_;rw[aps,ao4,anI]; exact fun e=>hl (by rw[e])
  clear hl;cases n1;all_goals
   go_enter func217,ntmps217
   go_wp2_with fail
   go_ret
   exact⟨by rw[hr.out]; rfl,HB0.out⟩
 have hr:Hid ((n1==n2&&l==m)=false):=by
  show _=_;rw[anI.2 hn,apr]
 cases n1<;>cases n2
 ·exact absurd rfl hn
 case' true.true=>exact absurd rfl hn
 all_goals
  clear hn
  go_enter func217,ntmps217
  go_wp2_with fail
  go_ret
  exact⟨by rw[hr.out]; rfl,HB0.out⟩
end
end Go.Proofs.YtfmkkemfhjkajaaGreatDoor
