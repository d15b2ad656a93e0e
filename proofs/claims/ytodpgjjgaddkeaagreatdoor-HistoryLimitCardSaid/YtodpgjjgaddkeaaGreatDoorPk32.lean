/- Package history: its operations on a history. Reading a -/
import Derived.Test.YtodpgjjgaddkeaaGreatDoorPk31
set_option maxHeartbeats 1600000
set_option maxRecDepth 100000
set_option linter.unusedVariables false
set_option linter.unusedSimpArgs false
namespace Go.Proofs.YtodpgjjgaddkeaaGreatDoor
section
open Go.RowKit
variable{α:Type}{K:Nat}
set_option maxRecDepth 100000 in
set_option maxHeartbeats 3200000 in
theorem mG{P:bZ→Prop}(hA:ApC P){w0 w:World}{b c:Nat}{H:HD}{e:bn}(hP:P e.key)(hE:Ext w0 w)(hx:Bx w b H.cells.toArray)(hb:w0.heap.size≤b)(hcb:c≤b)(hok:H.Ok K)(hm:H.mem K c b w)(hg:dw w)(he:iF K w e)(hel:e.node.lim) :
  Calls Tryz.prog 13 #[.q b 0,e.v] w fun r w'=>∃(H':HD) (code:Int),r = .returned (.i code)∧(H'.key,code)=H.key.app e.key∧H'.Ok K∧H'.mem K c b w'∧Ext w0 w'∧Ch b w w'∧Bx w' b H'.cells.toArray:=by
 skip;refine azE Tryz.func13 Tryz.ntmps13 hE hx hb fun S=>azd S fun u b2 E3 hb4 S=>Sx.lU S (pY (S.bx 1)) fun S=>azu S fun S=>adr S 6 [] [.mem 1 2] fun S=>azb S (((H.k:Int))==256) (fun Jz S=>?_) (fun Jz S=>?_)
 ·refine ay9 S (.i 5) (fun S=>?_);exact⟨H,5,rfl,by unfold HK.app; rw[azI (show H.key.k=256 from by have:=Jz; simp at this; exact(by omega:H.k=256))],hok,((az1 hm E3)),S.E,((Ch.trans (Ch.refl b w) (Ch.aZ E3))),S.lu 1⟩
 refine azs S 4 [.mem 0 0] [] [(15,.q b 0),(16,e.v)] trivial (fun u qM S=>?_);have hwu:Ext w u:=(Ext.trans' E3 qM);have hk:H.k≠256:=by have:=Jz; simp at this; omega
 have hch:=((Ch.trans (Ch.refl b w) (Ch.aZ (Ext.trans' E3 qM))));refine azj S 1 rfl (afh hA hP S.E (S.bx 1) hb hcb hok ((az1 hm (Ext.trans' E3 qM))) hk (dw.below hg hwu) (he.below hwu) hel) ?_;rintro e u ⟨H1,code,rfl,hkk,hok1,hm1,hE1,hC1,hX1⟩;refine⟨_,_,rfl,hE1,hC1,hX1,fun S=>?_⟩;refine ay9 S (.i code) (fun S=>?_);exact⟨H1,code,rfl,by unfold HK.app; rw[azG (show ¬H.key.k=256 from hk)]; exact hkk,hok1,hm1,S.E,Ch.trans hch hC1,S.lu 1⟩
theorem Xy{w0 w:World}{b c:Nat}{H:HD}(hE:Ext w0 w)(hx:Bx w b H.cells.toArray)(hb:w0.heap.size≤b)(hcb:c≤b)(hok:H.Ok K)(hm:H.mem K c b w) :
  Calls Tryz.prog 14 #[.q b 0] w fun r w'=>∃(H':HD) (code:Int),r = .returned (.i code)∧(H'.key,code)=H.key.undo∧H'.Ok K∧H'.mem K c b w'∧Ext w0 w'∧Ch b w w'∧Bx w' b H'.cells.toArray:=
 (abp hE hx hb (by have:=hok.le; omega)).mono fun e w' h=>by
  rcases h with ⟨h0,rfl,h1,h2,h3⟩ | ⟨k',hk',rfl,h1,h2,h3⟩
  ·exact⟨H,20,rfl,by unfold HK.undo; rw[azI (show H.key.k=0 from h0)],hok,HD.Pz hm h2,h1,h2,h3⟩
  ·have e1:(HD.key ⟨H.sa,H.sc,H.ss,H.ea,H.ec,H.es,k'⟩,(0:Int))=H.key.undo:=by
    unfold HK.undo
    rw[azG (show ¬H.key.k=0 from by show ¬H.k=0; omega)]
    unfold HD.key
    simp only[hk',Nat.add_sub_cancel]
   have e2:=hok.k.undo
   rw[←e1]at e2
   exact⟨⟨H.sa,H.sc,H.ss,H.ea,H.ec,H.es,k'⟩,0,rfl,e1,⟨e2,hok.s,hok.e⟩,HD.Pz hm h2,h1,h2,h3⟩
theorem afi{w0 w:World}{b c:Nat}{H:HD}(hE:Ext w0 w)(hx:Bx w b H.cells.toArray)(hb:w0.heap.size≤b)(hcb:c≤b)(hok:H.Ok K)(hm:H.mem K c b w) :
  Calls Tryz.prog 15 #[.q b 0] w fun r w'=>∃(H':HD) (code:Int),r = .returned (.i code)∧(H'.key,code)=H.key.redo∧H'.Ok K∧H'.mem K c b w'∧Ext w0 w'∧Ch b w w'∧Bx w' b H'.cells.toArray:=
 (abq hE hx hb (by have:=hok.le; omega)).mono fun e w' h=>by
  have hl:H.key.es.length=H.es.length:=aA1 ..
  rcases h with ⟨h0,rfl,h1,h2,h3⟩ | ⟨h0,rfl,h1,h2,h3⟩
  ·exact⟨H,20,rfl,by unfold HK.redo; rw[azI (show H.key.k=H.key.es.length from by rw[hl]; exact h0)],hok,HD.Pz hm h2,h1,h2,h3⟩
  ·have e1:(HD.key ⟨H.sa,H.sc,H.ss,H.ea,H.ec,H.es,H.k+1⟩,(0:Int))=H.key.redo:=by
    unfold HK.redo
    rw[azG (show ¬H.key.k=H.key.es.length from by rw[hl]; exact h0)]; rfl
   have e2:=hok.k.redo
   rw[←e1]at e2
   exact⟨⟨H.sa,H.sc,H.ss,H.ea,H.ec,H.es,H.k+1⟩,0,rfl,e1,⟨e2,hok.s,hok.e⟩,HD.Pz hm h2,h1,h2,h3⟩
theorem Ci{w:World}{b c:Nat}{H:HD}(hx:Bx w b H.cells.toArray)(hok:H.Ok K)(hm:H.mem K c b w) :
  Calls Tryz.prog 17 #[.q b 0] w fun r w'=>∃m:aJ,r = .returned m.v∧fU w.heap.size m.s m.ns w'∧dJ K w' m∧m.key=H.key.now∧(∀n∈m.ns,n.zX K)∧Ext w w':=
 have hR:=aAj hm
 have hq:=aAc hok.lt
 (Xp hx hR.1.1 hok.lt (hR.1.2 _ hq) (fun n hn=>(hok.s _ hq n hn).2) (by have:=TY (hok.val hq); omega)).mono fun e w' ⟨m,h1,h2,h3,h4,h5,h6,h7⟩=>by
  have hf:∀n∈m.ns,n.zX K:=fun n hn=>⟨fits_all h3 (fun n hn=>(hok.s _ hq n hn).1) n hn,zW h3 (fun n hn=>(hok.s _ hq n hn).2) n hn⟩
  exact⟨m,h1,h2,⟨h4▸(hR.1.2 _ hq).1,h5▸(hR.1.2 _ hq).2.1,fU.ok h2 fun n hn=>(hf n hn).1⟩,by rw[HD.Py hok.lt]; unfold aJ.key; rw[h4,h5,h6]; exact azT _ (zV h3),hf,h7⟩
end
section
open En
variable{K:Nat}
theorem PD{c:Nat}:∀{l:List bZ},(∀e∈l,(eB e).length≤c)→(l.flatMap eB).length≤l.length*c
 | [],_=>azQ _
 | x::r,h=>by
  have h1:=h x azV
  have h2:=PD (l:=r) fun e he=>h e (aAT _ he)
  rw[aAO,azL,aAn,Nat.succ_mul]
  omega
theorem HD.Ok.aiX{H:HD}(h:H.Ok K):∀e∈H.key.es,(eB e).length≤60000010:=fun e he=>by
 obtain⟨x,hx,rfl⟩:=az9.1 he;have h1:=DI (e:=x) (h.k.hs.enc he).2;have h2:=IX (fP.app (jW x.key));unfold eB;omega
theorem HD.Ok.aiY{H:HD}(h:H.Ok K){s:aJ}(hs:s∈H.ss):(fP.app (dU s.key)).length≤60000000:=Xv (h.val hs)
def hP(s:bD)(k n:Nat)(l:List bZ):List UInt8:=fQ (fP.app (dU s))++(dV 10 k++(dV 10 n++l.flatMap eB))
theorem aiZ(s:bD)(k:Nat)(es:List bZ):hB s k es=hP s k es.length es:=rfl
theorem afj{s:bD}{k:Nat}{es:List bZ}(h1:(fP.app (dU s)).length≤60000000)(h2:∀e∈es,(eB e).length≤60000010)(h3:es.length≤256):(hB s k es).length≤20000000000:=by
 have a1:=IX (fP.app (dU s));have a2:=iE 10 k;have a3:=iE 10 es.length;have a4:=PD h2;have a5:es.length*60000010≤256*60000010:=aA7 _ h3;unfold hB;simp only[azL];omega
theorem afk{s:bD}{k:Nat}{es:List bZ}(h1:(fP.app (dU s)).length≤60000000):Yi (hB s k es) (0:Nat) (hB s k es).length=(fP.app (dU s),(fQ (fP.app (dU s))).length,0):=by
 have:=YP [] (dV 10 k++(dV 10 es.length++es.flatMap eB)) (fP.app (dU s)) (hB s k es).length (by omega) (by unfold hB fQ; simp only[azL]; omega);simp only[aAH,aAS,aAD]at this;exact this
theorem auW{s:bD}{k:Nat}{es:List bZ}(hk:k≤256):xO (hB s k es) ((fQ (fP.app (dU s))).length:Nat)=(k,(fQ (fP.app (dU s))).length+(dV 10 k).length,0):=
 YO (fQ (fP.app (dU s))) (dV 10 es.length++es.flatMap eB) k (by omega)
theorem auX{s:bD}{k:Nat}{es:List bZ}(hk:es.length≤256):xO (hB s k es) ((fQ (fP.app (dU s))).length+(dV 10 k).length:Nat)=(es.length,(hP s k es.length []).length,0):=by
 have:=YO (fQ (fP.app (dU s))++dV 10 k) (es.flatMap eB) es.length (by omega);rw[az0,azL]at this;unfold hP hB;rw[this];simp only[azL,List.flatMap_nil,aAL,aBD]
theorem auY{s:bD}{k j:Nat}{es:List bZ}{e:bZ}(he:es[j]?=some e)(h2:(eB e).length≤60000010):Yi (hB s k es) ((hP s k es.length (es.take j)).length:Nat) (hB s k es).length=(fP.app (jW e),(hP s k es.length (es.take (j+1))).length,0):=by
 obtain⟨hj,rfl⟩:=List.getElem?_eq_some_iff.1 he;have e0:es=es.take j++(es[j]::es.drop (j+1)):=by rw[List.getElem_cons_drop,aBC]
 have e1:hB s k es=hP s k es.length (es.take j)++(fQ (fP.app (jW es[j]))++(es.drop (j+1)).flatMap eB):=by
  rw[aiZ];conv=>lhs; rw[hP]
  rw[hP];simp only[az0];congr 3;conv=>lhs; rw[e0]
  rw[aBm,aAO]; rfl
 have h3:(fP.app (jW es[j])).length≤(eB es[j]).length:=by unfold eB fQ; rw[azL]; omega
 have hl:((fP.app (jW es[j])).length:Int)≤((hB s k es).length:Int):=by
  rw[e1]; unfold fQ; simp only[azL]; omega
 have:=YP (hP s k es.length (es.take j)) ((es.drop (j+1)).flatMap eB) (fP.app (jW es[j])) (hB s k es).length (by omega) hl;rw[←e1]at this;rw[this];have e4:(hP s k es.length (es.take (j+1))).length=(hP s k es.length (es.take j)).length+(fQ (fP.app (jW es[j]))).length:=by
  rw[aAJ hj];unfold hP;simp only[aBm,aAO,List.flatMap_nil,aAL,azL];unfold eB;omega
 rw[e4]
theorem HK.abz{ss:List bD}{es:List bZ}(h:Hs ss es){j:Nat}{e:bZ}(he:es[j]?=some e):HK.put ⟨ss.take (j+1),es.take j,j⟩ e=(⟨ss.take (j+2),es.take (j+1),j+1⟩,0):=by
 obtain⟨a,b,h1,h2,h3⟩:=h.step j e he;obtain⟨hj,rfl⟩:=List.getElem?_eq_some_iff.1 he;have hl:=h.len;have hn:HK.now ⟨ss.take (j+1),es.take j,j⟩=a:=by
  unfold HK.now;simp only;rw[List.getElem?_take_of_lt (by omega),h1]; rfl
 unfold HK.put;rw[hn,h3,azI rfl];simp only[azP,HK.mk.injEq,and_true];obtain⟨hb,rfl⟩:=List.getElem?_eq_some_iff.1 h2;refine⟨?_,?_⟩
 ·rw[List.take_take,Nat.min_self,←aAJ hb]
 rw[List.take_take,Nat.min_self,←aAJ hj]
def HK.bytes(h:HK):List UInt8:=fP.app (hB ((h.ss[0]?).getD .zero) h.k h.es)
theorem HD.bytes_eq{H:HD}{s:aJ}(hs:H.ss[0]?=some s):fP.app (hP s.key H.k H.es.length (H.es.map bn.key))=H.key.bytes:=by
 unfold HK.bytes HD.key;simp only[List.getElem?_map,hs,aAv,Option.getD_some,aiZ,aA1]
theorem Y9{s:bD}{k n j:Nat}{es:List bn}{x:bn}(hj:j<es.length)(hx:es[j]=x):hP s k n ((es.map bn.key).take (j+1))=hP s k n ((es.map bn.key).take j)++eB x.key:=by
 rw[aAJ (by simpa using hj),List.getElem_map,hx];unfold hP;simp only[aBm,aAO,List.flatMap_nil,aAL,az0]
theorem HD.Ok.apX{H:HD}(h:H.Ok K){s:bD}(h1:(fP.app (dU s)).length≤60000000)(k n j:Nat):(hP s k n ((H.es.map bn.key).take j)).length≤20000000000:=by
 have a1:=IX (fP.app (dU s));have a2:=iE 10 k;have a3:=iE 10 n;have a4:=PD (l:=(H.es.map bn.key).take j) fun e he=>h.aiX e (aB5 he);have a6:((H.es.map bn.key).take j).length≤256:=by have:=h.le; rw[aBa,aA1]; omega
 have a5:((H.es.map bn.key).take j).length*60000010≤256*60000010:=aA7 _ a6;unfold hP;simp only[azL];omega
end
section
open Go.RowKit En
variable{α:Type}{K:Nat}
theorem Za{n:Nat}(h:n≤1000000):Value.int .u64 (IntKind.u64.wrap (n:Int)) = .int .u64 (n:Int):=wrap_u64 (by omega)
set_option maxRecDepth 100000 in
set_option maxHeartbeats 3200000 in
theorem DL{w:World}{b c:Nat}{H:HD}(hx:Bx w b H.cells.toArray)(hok:H.Ok K)(hm:H.mem K c b w)(hg:dw w) :
  Calls Tryz.prog 10 #[.q b 0] w fun r w'=>∃v,r = .returned (.tuple #[v,.i 0])∧OwnB w.heap.size w' v H.key.bytes∧Ext w w':=by
 obtain⟨sa,sc,ss,ea,ec,es,ka⟩:=H;have hW:=aAj hm;have hlen:ss.length=es.length+1:=hok.len;have hle:ka≤es.length∧es.length≤256:=hok.le;have hpos:0<ss.length:=by omega
 have hmax:es.length≤9223372036854775807:=by omega
 refine aze Tryz.func10 Tryz.ntmps10 (fun S=>?_);have S:=S.view0 hx.1 (hx.range 0 4 rfl);refine Sx.lU S (pY hx) fun S=>azu S (fun S=>?_);have afl:0<ss.length:=hpos;obtain⟨b5,o6,rfl,s11,hx9,GV,hr8⟩:=aAe hW.1.1 (fun _=>rfl) (0) afl;have S:=S.view0 GV hr8;have hs0:ss[0]?=some s11:=by rw[List.getElem?_eq_getElem hpos,hx9]
 have hsv:=hok.val (s:=s11) (hx9▸aAc afl);have hsl:=hok.aiY (s:=s11) (hx9▸aAc afl);refine adr S 7 [] [.mem 1 0,.idx 0 ss.length,.mem 0 0] (hk:=⟨afl,trivial⟩) fun S=>azo S (vJ ((hW.1.2 _ (hx9▸aAc afl)).below S.E) (dw.below hg S.E)) ?_;rintro e u ⟨v1,er1,rfl,hsc,EM⟩;obtain⟨rfl,ho1⟩:=TK.good hsc hsv;refine⟨_,rfl,EM,fun S=>?_⟩;refine azu S (fun S=>?_);have S0:=S.E.size;refine azv S (nT _ _ _ (uT ho1) (by omega)) (fun v2 u ho2 yJ S=>?_);have R:=kE (aAo S) ho2 (fun p hp=>by cases hp) S0;have hB0:=hok.apX hsl ka es.length;have hB:(fQ (fP.app (dU s11.key))++dV 10 ka++dV 10 es.length).length≤20000000000:=by have:=hB0 0; simpa[hP]using this
 have hB1:=hB;simp only[azL]at hB1;refine adr S 8 [] [.mem 1 2,.re 35 (.int .u64 (IntKind.u64.wrap (ka:Int))) (.int .u64 (ka:Int))] (hk:=⟨(Za (by omega)),trivial⟩) fun S=>azv S (fO ka _ (by omega)) (fun u1 u hu1 KP S=>?_);obtain⟨R,Y20⟩:=R.bP S (az7 KP);refine azl S fun S=>azz S R 37 (dV 10 ka) (jE (hu1)) (by simp only[azL]at hB ⊢; omega) fun ac u v21 X22 R S=>azr S (fun S=>?_);have S:=S.view0 hx.1 (hx.range 0 4 rfl);refine adr S 9 [] [.mem 0 1,.re 45 (.int .u64 (IntKind.u64.wrap (es.length:Int))) (.int .u64 (es.length:Int))] (hk:=⟨(Za (by omega)),trivial⟩) fun S=>azv S (fO es.length _ (by omega)) (fun u2 u hu2 Aw S=>?_);obtain⟨R,Y25⟩:=R.bP S (az7 Aw);refine azl S fun S=>azz S R 47 (dV 10 es.length) (jE (hu2)) (by simp only[azL]at hB ⊢; omega) fun ac u v26 X27 R S=>azr S (fun S=>?_);have S:=S.view0 hx.1 (hx.range 0 4 rfl);refine adr S 8 [] [.mem 0 1] fun S=>azw S (ι:=Nat×Value) (fun p a' w'=>p.1≤es.length∧(True)∧Sx.Rw w w' [] [⟨5,1,p.2,(hP s11.key ka es.length ((es.map bn.key).take p.1)).length,(hP s11.key ka es.length ((es.map bn.key).take p.1)).map gu⟩]∧Sx.St w a' w' 73 [(0,.q b 0),(2,.sn),(3,.i 0),(4,v1),(5,.i 0),(6,p.2),(52,.slice ea es.length ec),(53,.i es.length),(54,.i p.1)] [] []) (fun p=>es.length-p.1) (0,v26) (fun S=>⟨azQ _,trivial,R.as (show [Sx.bR v26 (fQ (fP.app (dU s11.key))++(dV 10 ka)++(dV 10 es.length))]=[Sx.bR v26 (hP s11.key ka es.length ((es.map bn.key).take 0))] by simp[hP]),S.sn⟩) ?_;rintro⟨k,v⟩ ac u gW eH hI;try dsimp only at hI
 obtain⟨hk,hR,R,S⟩:=hI;refine azx S fun S=>azb S (decide ((k:Int)<(es.length:Int))) (fun hc32 S=>?_) (fun hc32 S=>?_)
 ·have abA:k<es.length:=by have:=azZ hc32; omega
  obtain⟨b35,o36,rfl,x41,hx39,ajz,auZ⟩:=aAe hW.2.1 (fun _=>rfl) (k) abA;have S:=S.view0 ajz auZ;refine adr S 2 [] [.idx k es.length,.mem 0 0] (hk:=⟨abA,trivial⟩) fun S=>azh S (Sx.L [.i 0,.i 0,.i 0,.i 0,.i 0,.i 0,.i 0]++Sx.za++Sx.L [.sn,.i 0,.u 0,.i 0,.z,.z,.sn,.i 0,.sn,.i 0,.i 0,.i 0,.i 0,.sn,.i 0,.sn,.i 0,.i 0,.sn,.i 0,.u 0,.u 0,.u 0,.u 0]) fun u b43 Yb U2 S=>azm S 0 (off:=0) (cs:=x41.cells) rfl (fun u Uz S=>?_);have hem:=hok.k.hs.enc (e:=x41.key) (az9.2 ⟨_,(hx39▸aAc abA),rfl⟩);have hel:=DI (e:=x41) hem.2;refine adr S 1 [] [.mem 0 0] fun S=>azo S (xg ((hW.2.2 _ (hx39▸aAc abA)).below S.E) (dw.below hg S.E)) ?_;rintro e u ⟨v4,er4,rfl,hec,QK⟩;obtain⟨rfl,ho4⟩:=TQ.good hec hem.1 hem.2;refine⟨_,rfl,QK,fun S=>?_⟩;refine azu S fun S=>azv S (nT _ _ _ (uT ho4) (by omega)) (fun v5 u ho5 E51 S=>?_);have hB:=hB0 (k+1);rw[Y9 abA hx39]at hB;obtain⟨R,Y52⟩:=R.bP S (az2 (aAM Yb U2) (az2 (Sx.Stp.Oc Uz) (az2 (az7 QK) (az7 E51))));refine azl S fun S=>azz S R 69 (eB x41.key) (jE (ho5)) (by simp only[azL]at hB ⊢; omega) fun ac u v53 X54 R S=>azr S fun S=>adr S 3 [] [.re 70 (.i (IntKind.i64.wrap ((k:Int)+1))) (.i (k+1:Nat))] (fun S=>?_) (hk:=⟨azt (by omega),trivial⟩);have S:=S.iH 1;obtain⟨R,Y55⟩:=R.bP S (aAE 1);refine azy S gW (fun S=>?_);exact eH _ _ ((k+1),v53) ⟨by omega,trivial,R.as (show [Sx.bR v53 (hP s11.key ka es.length ((es.map bn.key).take k)++eB x41.key)]=[Sx.bR v53 (hP s11.key ka es.length ((es.map bn.key).take (k+1)))] by rw[Y9 abA hx39]),S.sn⟩ (by show _-_<_-_; omega)
 have hkn:es.length≤k:=by have:=az4 hc32; omega
 have hout:OwnB w.heap.size u v (hP s11.key ka es.length ((es.map bn.key).take k)):=R.own _ azV;rw[aAp (show(es.map bn.key).length≤k by rw[aA1]; exact hkn)]at hout;have hbf:=hB0 k;rw[aAp (show(es.map bn.key).length≤k by rw[aA1]; exact hkn)]at hbf;have S1:=S.E.size;refine azv S (wU _ (hP s11.key ka es.length (es.map bn.key)) _ (uT hout) (by omega)) fun v9 u ho9 E57 S=>Sx.QJ S v9 (.i 0) (fun S=>?_);exact⟨_,rfl,qL (aY ho9 S1) (HD.bytes_eq (H:=⟨_,_,ss,_,_,es,ka⟩) hs0),S.E⟩
end
end Go.Proofs.YtodpgjjgaddkeaaGreatDoor
section
namespace Go.Sx
open Go.Proofs Go.Proofs.YtodpgjjgaddkeaaGreatDoor Go.RowKit Go.Rel
section
variable{P:Program}{B:Exit→Act→World→Prop}{ops:Array Oper}{Q:Exit→Act→World→Prop}{n:Nat}{w0 w:World}{a:Act}{os:List Oper}{l:List (Nat×Value)}{bl:List (Nat×List Value)}{vs:List eX}{z:Zt}
theorem alR(S:St w0 a w n l bl vs)(k1 k2:Nat){f:FuncId}{args:Array Value}{b1 b2:Nat}{A1 A2:List Value}(d:Option Nat){R:Ending→World→Prop}(hne:k1≠k2)(hk1:bl[k1]?=some (b1,A1))(hk2:bl[k2]?=some (b2,A2))(hc:Calls P f args w R)
  (next:∀e w',R e w'→∃v wm A1' A2',e = .returned v∧(Ext w0 wm∧Ch b1 w wm∧Bx wm b1 (List.toArray A1'))∧(Ext w0 w'∧Ch b2 wm w'∧Bx w' b2 (List.toArray A2'))∧∀a',St w0 a' w' n (yB l d v) ((bl.set k1 (b1,A1')).set k2 (b2,A2')) vs→wpList P ops Q (os.drop 1) a' w')
  (hx:callOf P os l=some (f,args,d):=by kernel_rfl) (hd:vG n d=true:=by rfl):wpList P ops Q os a w:=by
 cases os with
 | nil=>cases hx
 | cons o os =>
  unfold callOf at hx;simp only at hx;split at hx
  ·rename_i f' args' hg hav hev;simp only[azK,azP]at hx;obtain⟨rfl,rfl,rfl⟩:=hx;simp only[aAz]at hav;have hrun:(execOp a.eval o).run P w = .ok (.enter f' args') w:=lG (Std.act a) (ig (bY S.s) o) (p:=[]) rfl hav.1 (by simpa using hav.2) hev;unfold wpList;rw[azI (by simp[Region.wanted,hg])];left;unfold Oper.wp;rw[hrun];simp only[Oper.upon];refine hc.mono fun e w' hR=>?_;obtain⟨v,wm,A1',A2',rfl,⟨hE1,hC1,hX1⟩,⟨hE2,hC2,hX2⟩,hn⟩:=next e w' hR;exact hn _ (((S.ch hC1 hk1 hX1 hE1).ch hC2 (by rw[List.getElem?_set_ne hne]; exact hk2) hX2 hE2).act (uP S.s hd v))
  cases hx
theorem Xz(S:St w0 a w n l bl vs)(k:Nat){f:FuncId}{args:Array Value}{b:Nat}{A:List Value}(d:Option Nat){R:Ending→World→Prop}(hk:bl[k]?=some (b,A))(hc:Calls P f args w R)
  (next:∀e w',R e w'→∃v A',e = .returned v∧Ext w0 w'∧Ch b w w'∧Bx w' b (List.toArray A')∧∀a',St w0 a' w' n (yB l d v) (bl.set k (b,A')) vs→wpList P ops Q (os.drop 1) a' w')
  (hx:FP P ops os l=some (f,args,d):=by kernel_rfl) (hd:vG n d=true:=by rfl):wpList P ops Q os a w:=by
 cases os with
 | nil=>cases hx
 | cons o os =>
  unfold FP at hx;simp only at hx;split at hx
  ·rename_i p f' args' hp hav hev;split at hx
   ·rename_i hg;simp only[azK,azP]at hx;obtain⟨rfl,rfl,rfl⟩:=hx;simp only[aAz]at hav;have hrun:(execOp a.eval o).run P w = .ok (.enter f' args') w:=lG (Std.act a) (ig (bY S.s) o) (p:=[]) rfl hav.1 (by simpa using hav.2) hev;unfold wpList;rw[azI ((rP (a:=a) hp (fun x _ i y _ hl=>bY S.s i y hl)).2 hg)];left;unfold Oper.wp;rw[hrun];simp only[Oper.upon];refine hc.mono fun e w' hR=>?_;obtain⟨v,A',rfl,hE,hC,hX,hn⟩:=next e w' hR;exact hn _ ((S.ch hC hk hX hE).act (uP S.s hd v))
   cases hx
  cases hx
theorem FQ(S:St w0 a w n z.l bl vs)(k1 k2:Nat){f:FuncId}{args:Array Value}{b1 b2:Nat}{A1 A2:List Value}{R:Ending→World→Prop}(hne:k1≠k2)(hk1:bl[k1]?=some (b1,A1))(hk2:bl[k2]?=some (b2,A2))(hc:Calls P f args w R)
  (next:∀e w',R e w'→∃v wm A1' A2',e = .returned v∧(Ext w0 wm∧Ch b1 w wm∧Bx wm b1 (List.toArray A1'))∧(Ext w0 w'∧Ch b2 wm w'∧Bx w' b2 (List.toArray A2'))∧∀{a'},St w0 a' w' n (vS v (zN P n z)).l ((bl.set k1 (b1,A1')).set k2 (b2,A2')) vs→Gz P B (vS v (zN P n z)) a' w')
  (hx:callOf P (oH (zN P n z)) (zN P n z).l=some (f,args,lD (zN P n z)):=by kernel_rfl) (ho:(tY (zN P n z)&&vG n (lD (zN P n z)))=true:=by kernel_rfl):Gz P B z a w:=by
 simp only[azY]at ho;refine tZ S fun S=>zop ho.1 (alR S k1 k2 _ hne hk1 hk2 hc (fun e w' hR=>?_) hx ho.2);obtain⟨v,wm,A1',A2',h1,h2,h4,h3⟩:=next e w' hR;exact⟨v,wm,A1',A2',h1,h2,h4,fun a' S'=>IE (m:=1) (l:=[]) ho.1 (h3 S')⟩
end
end Go.Sx
namespace Go.Proofs.YtodpgjjgaddkeaaGreatDoor
open Go.RowKit En
variable{α:Type}{K:Nat}
theorem alS{f:α→List Value}{k:Nat}{v:Value}{L:List α}{w:World}(h:aI k f w v L):Sx.On (fun i=>i<w.heap.size) (fun W=>aI k f W v L) w:=fun W hs hk=>by
 obtain⟨a,cap,e,hm,h⟩:=h;rcases h with h | ⟨b,o,rfl,hb,hl,hc⟩
 ·exact⟨a,cap,e,hm,.inl h⟩
 exact⟨_,cap,e,hm,.inr ⟨b,o,rfl,aAa hb hs,hl,fun i hi j hj=>by rw[World.cell?_of_block (a:=⟨b,_,none⟩) (hk b hb hb)]; exact hc i hi j hj⟩⟩
theorem abB{f:FuncId}{args:Array Value}{w:World}{l m:List UInt8}{i most:Int}{j:Nat}(h:Calls Tryz.prog f args w (DC w (Yi l i most)))(hr:Yi l i most=(m,j,0)):Calls Tryz.prog f args w fun e w'=>∃x,e = .returned (.tuple #[x,.i j,.i 0])∧OwnB w.heap.size w' x m∧Ext w w':=by
 rw[hr]at h; exact h
theorem abC{f:FuncId}{args:Array Value}{w:World}{l:List UInt8}{i:Int}{m j:Nat}(h:Calls Tryz.prog f args w fun e w'=>e = .returned (am6 (xO l i))∧Ext w w')(hr:xO l i=(m,j,0)):Calls Tryz.prog f args w fun e w'=>e = .returned (.tuple #[.int .u64 (m:Int),.i j,.i 0])∧Ext w w':=by
 rw[hr]at h; exact h
theorem alT{base:Nat}{w:World}{v:Value}{l:List UInt8}(h:OwnB base w v l):Sx.aU base (fun W=>jr W v l) w:=Sx.kQ (f:=fun n:UInt8=>[gu n]) (L:=l) (fun _=>rfl) h rfl (Oy l).symm
theorem MK{w0 w:World}{bi ba bf:Nat}{v:Value}{l m:List UInt8}{i j:Nat}(hE:Ext w0 w)(hxi:Bx w bi #[v])(hxa:Bx w ba #[.i i])(hxf:Bx w bf #[.bool true])(ha:w0.heap.size≤ba)(hf:w0.heap.size≤bf)(hab:ba≠bf)(hia:bi≠ba)(hif:bi≠bf)(hv:bJ w v l)(hl:l.length≤100000000000)(hr:Yi l (i:Nat) l.length=(m,j,0)) :
  Calls Tryz.prog 44 #[.q bi 0,.q ba 0,.q bf 0] w fun e w'=>∃x wm,e = .returned x∧jr w' x m∧(Ext w0 wm∧Ch ba w wm∧Bx wm ba #[.i j])∧(Ext w0 w'∧Ch bf wm w'∧Bx w' bf #[.bool true]):=by
 obtain⟨a,cap,rfl,hmx,-⟩:=id hv;refine azE Tryz.func44 Tryz.ntmps44 hE hxa ha (fun S=>?_);have S:=S.adopt (A:=[.bool true]) hxf hf (fun p hp=>by rcases azS.1 hp with rfl | hp; (exact hab); cases hp) (fun m hm=>by cases hm);have S:=S.view hxi.1 (hxi.range 0 1 rfl) (fun p hp=>by rcases azS.1 hp with rfl | hp; (exact hif.symm); rcases azS.1 hp with rfl | hp; (exact hia.symm); cases hp);have hba:=(S.bx 1).1;have hbf:=(S.bx 0).1;refine adr S 5 [] [.mem 2 0,.mem 1 0,.mem 2 0] fun S=>azo S (abB (SK _ l (i:Int) (l.length:Int) _ (hv.below Ext.rfl') hl (by omega)) hr) ?_;rintro e u ⟨x1,rfl,ho1,E3⟩;have hs1:=alT ho1;refine⟨_,rfl,E3,fun S=>?_⟩;refine adr S 13 [19,20] [.mem 0 0] fun S=>azk S 1 rfl (fun u C6 S=>?_);have Fs5:=(aH ((Ch.trans (Ch.refl ba w) (Ch.aZ E3))) C6);have Fs6:=(Sx.On.ch hs1 C6 (by omega));have hch:Ch ba w u:=Fs5;have Xm:=S.E;have hXm:Bx u ba (List.toArray [.i j]):=S.lu 1;obtain⟨wm,hwm⟩:∃x,x=u:=⟨_,rfl⟩;rw[←hwm]at hch Xm hXm;refine azk S 0 rfl (fun u C7 S=>?_);have Lm:=(Sx.On.ch Fs6 C7 (by omega));rw[←hwm]at C7;refine ay9 S x1 (fun S=>?_);exact⟨_,wm,rfl,(aAj (aBL Lm fun i h=>h)),⟨Xm,hch,hXm⟩,S.E,C7,S.lu 0⟩
theorem Ua{w0 w:World}{bi ba bf:Nat}{v:Value}{l:List UInt8}{i j:Nat}(hE:Ext w0 w)(hxi:Bx w bi #[v])(hxa:Bx w ba #[.i i])(hxf:Bx w bf #[.bool true])(ha:w0.heap.size≤ba)(hf:w0.heap.size≤bf)(hab:ba≠bf)(hia:bi≠ba)(hif:bi≠bf)(hv:bJ w v l){m:Nat}(hr:xO l (i:Nat)=(m,j,0)) :
  Calls Tryz.prog 46 #[.q bi 0,.q ba 0,.q bf 0] w fun e w'=>∃wm,e = .returned (.int .u64 (m:Int))∧(Ext w0 wm∧Ch ba w wm∧Bx wm ba #[.i j])∧(Ext w0 w'∧Ch bf wm w'∧Bx w' bf #[.bool true]):=by
 obtain⟨a,cap,rfl,hmx,-⟩:=id hv;refine azE Tryz.func46 Tryz.ntmps46 hE hxa ha (fun S=>?_);have S:=S.adopt (A:=[.bool true]) hxf hf (fun p hp=>by rcases azS.1 hp with rfl | hp; (exact hab); cases hp) (fun m hm=>by cases hm);have S:=S.view hxi.1 (hxi.range 0 1 rfl) (fun p hp=>by rcases azS.1 hp with rfl | hp; (exact hif.symm); rcases azS.1 hp with rfl | hp; (exact hia.symm); cases hp);refine adr S 3 [] [.mem 2 0,.mem 1 0] fun S=>azp S (abC (wS _ l (i:Int) _ (hv.below Ext.rfl')) hr) fun u E3 S=>adr S 13 [17,18] [.mem 0 0] fun S=>azk S 1 rfl (fun u C6 S=>?_);have Fs5:=(aH ((Ch.trans (Ch.refl ba w) (Ch.aZ E3))) C6);have hch:Ch ba w u:=Fs5;have Xm:=S.E;have hXm:Bx u ba (List.toArray [.i j]):=S.lu 1;obtain⟨wm,hwm⟩:∃x,x=u:=⟨_,rfl⟩;rw[←hwm]at hch Xm hXm;refine azk S 0 rfl (fun u C7 S=>?_);rw[←hwm]at C7;refine ay9 S (.int .u64 (m:Int)) (fun S=>?_);exact⟨wm,rfl,⟨Xm,hch,hXm⟩,S.E,C7,S.lu 0⟩
end Go.Proofs.YtodpgjjgaddkeaaGreatDoor
end
namespace Go.Proofs.YtodpgjjgaddkeaaGreatDoor
section
open Go.RowKit En
variable{α:Type}{K:Nat}
theorem HD.alU{H:HD}{c c' b:Nat}{w:World}(h:H.mem K c b w)(hc:c'≤c):H.mem K c' b w:=aBL h fun i hi=>⟨az3 hc hi.1,hi.2⟩
theorem TN.back{base:Nat}{w:World}{s:aJ}{v:Value}{er:Int}(hK:K≤5000)(hs:dJ K w s)(hv:s.key.valid=true)(h:TN base w (fP.app (dU s.key)) v er):er=0∧∃t:aJ,v=t.v∧Sx.aU base (fun W=>dJ 5000 W t) w∧t.key=s.key:=by
 rcases h with ⟨h0,t,h1,h2,h3,h4,h5⟩ | ⟨h0,h1,⟨h2,h3⟩ | ⟨h2,h3,h4⟩ | ⟨h2,h3,h4⟩⟩
 ·exact⟨h0,t,h1,h2,((WR (hs.up hK (by decide)) (aAj h2) hv h3 [] [] (by rw[rM h5])).1).symm⟩
 ·rw[nV]at h3; omega
 ·exact absurd rfl (h4 _)
 exact absurd rfl (h4 _ _ s hs hv)
theorem TS.back{base:Nat}{w:World}{e:bn}{v:Value}{er:Int}(hK:K≤5000)(hs:iF K w e)(hm:fD e.key=false)(hv:jh e.key=true→e.key.node.chk=0)(h:TS base w (fP.app (jW e.key)) v er):er=0∧∃t:bn,v=t.v∧Sx.aU base (fun W=>iF 5000 W t) w∧t.key=e.key:=by
 rcases h with ⟨h0,t,h1,h2,h3,h4,h5,h6⟩ | ⟨h0,h1,⟨h2,h3⟩ | ⟨h2,h3,h4⟩ | ⟨h2,h3,h4⟩⟩
 ·exact⟨h0,t,h1,h2,(abt (hs.up hK (by decide)) (aAj h2) hm h3 hv h4 (rM h6)).symm⟩
 ·rw[nV]at h3; omega
 ·exact absurd rfl (h4 _)
 exact absurd rfl (h4 _ _ e hs hm hv)
theorem ahI{l m:List UInt8}{k:Int}(h:Ver (fP.app l) m k):k=0∧m=l:=by
 rcases h with ⟨-,h⟩ | ⟨-,-,h⟩ | ⟨h,h2⟩
 ·rw[nV]at h; omega
 ·exact absurd rfl (h l)
 exact⟨h,(rM h2).symm⟩
theorem afm{f:FuncId}{args:Array Value}{w:World}{v v':Value}(h:Calls Tryz.prog f args w fun e w'=>e = .returned v∧w=w')(hv:v=v'):Calls Tryz.prog f args w fun e w'=>e = .returned v'∧w=w':=hv▸h
theorem PE{w:World}{s:aJ}(h:dJ K w s)(hg:dw w)(hlim:∀n∈s.ns,n.lim)(hv:s.key.valid=true) :
  Calls Tryz.prog 25 #[s.v] w fun e w'=>∃(b:Nat) (H:HD),e = .returned (.tuple #[.q b 0,.i 0])∧w.heap.size≤b∧Bx w' b H.cells.toArray∧H.mem K w.heap.size b w'∧(H.Ok K∧H.key=⟨[s.key],[],0⟩)∧Ext w w':=
 (aff h hg hlim).mono fun e w' h=>by
  rcases h with ⟨h1,-⟩ | ⟨-,h⟩
  ·rw[hv]at h1; cases h1
  ·exact h
theorem alV{j:Nat}(h:j≤1000000):Value.int .u64 (IntKind.u64.wrap ((j:Int)+1)) = .int .u64 ((j+1:Nat):Int):=wrap_u64 (n:=j+1) (by omega)
theorem alW{n:Nat}(h:n≤1000000):Value.i (IntKind.i64.wrap (n:Int)) = .i n:=by
 have:IntKind.i64.wrap (n:Int)=(n:Int):=by rw[aB7]; omega
 rw[this]
def HK.upto(h:HK)(j:Nat):HK:=⟨h.ss.take (j+1),h.es.take j,j⟩
theorem HK.Ok.afn{h:HK}(o:h.Ok){j:Nat}{e:bZ}(he:h.es[j]?=some e):(h.upto j).app e=(h.upto (j+1),0):=by
 have:=(List.getElem?_eq_some_iff.1 he).1;have:=o.most;unfold HK.app;rw[azG (show ¬(h.upto j).k=256 from by show ¬j=256; omega)];exact HK.abz o.hs he
theorem HK.Ok.upto_all{h:HK}(o:h.Ok):(⟨(h.upto h.es.length).ss,(h.upto h.es.length).es,h.k⟩:HK)=h:=by
 unfold HK.upto;simp only;rw[aAp (by rw[o.hs.len]; exact azJ _),aAp (azJ _)]
theorem HK.Ok.abD{h:HK}(o:h.Ok):(⟨[(h.ss[0]?).getD .zero],[],0⟩:HK)=h.upto 0:=by
 have hl:=o.hs.len;unfold HK.upto;cases hs:h.ss with
 | nil=>rw[hs]at hl; simp at hl
 | cons s r=>rfl
theorem HD.Ok.au0{H G:HD}(h:H.Ok K)(k:Nat)(hk:(⟨H.key.ss,H.key.es,k⟩:HK)=G.key)(hG:G.key.Ok):HD.Ok K ⟨H.sa,H.sc,H.ss,H.ea,H.ec,H.es,k⟩:=⟨(show(⟨H.key.ss,H.key.es,k⟩:HK).Ok from hk▸hG),h.s,h.e⟩
set_option maxRecDepth 100000 in
set_option maxHeartbeats 3200000 in
theorem ML{P:bZ→Prop}(hA:ApC P){w:World}{v:Value}{H:HD}(hPe:∀e∈H.key.es,P e)(hv:jr w v H.key.bytes)(hok:H.Ok K)(hK:K≤5000)(hrow:H.row K w)(hg:dw w) :
  Calls Tryz.prog 24 #[v] w fun r w'=>∃(b:Nat) (G:HD),r = .returned (.tuple #[.q b 0,.i 0])∧w.heap.size≤b∧Bx w' b G.cells.toArray∧G.mem 5000 w.heap.size b w'∧G.Ok 5000∧G.key=H.key∧Ext w w':=by
 have PG:=hok.k;have hby:H.key.bytes=fP.app (hB ((H.key.ss[0]?).getD .zero) H.key.k H.key.es):=rfl;have h0z:=PG.abD;have hpos:0<H.ss.length:=by have:=hok.len; omega
 obtain⟨s0,hs0⟩:∃z,H.ss[0]=z:=⟨_,rfl⟩;have ahJ:s0∈H.ss:=hs0▸aAc hpos;have afo:(H.key.ss[0]?).getD .zero=s0.key:=by unfold HD.key; simp only[List.getElem?_map,List.getElem?_eq_getElem hpos,hs0]; rfl
 have hso:=hrow.1.2 s0 ahJ;have hsv:=hok.val ahJ;have hsl2:∀n∈s0.ns,n.lim:=fun n hn=>(hok.s s0 ahJ n hn).2;have hsl:=hok.aiY ahJ;have heo:=hrow.2.2;have hel:=hok.aiX;have apY:∀e∈H.key.es,∃x,x∈H.es∧x.key=e:=fun e he=>by obtain⟨x,h1,h2⟩:=az9.1 he; exact⟨x,h1,h2⟩
 have ai0:H.key.k≤256:=az3 PG.k PG.most;have Zb:=PG.most;have hkn:=PG.k;obtain⟨hk,hhk⟩:∃z,z=H.key:=⟨_,rfl⟩;rw[←hhk]at hPe hv PG hby h0z afo hel apY ai0 Zb hkn;obtain⟨UH,alX⟩:∃z,z=s0.key:=⟨_,rfl⟩;rw[←alX]at afo hsl;rw[afo]at hby h0z;have hlL:(hB UH hk.k hk.es).length≤100000000000:=az3 (afj hsl hel Zb) (by decide);have hl2:=afj (k:=hk.k) hsl hel Zb;refine aze Tryz.func24 Tryz.ntmps24 fun S=>azo S (Tq (hv.below S.E) (by rw[hby,nV]; omega)) ?_;rintro e u ⟨v1,m1,er1,rfl,hin,E3,abl⟩;rw[hby]at abl;obtain⟨rfl,rfl⟩:=ahI abl;obtain⟨c1,hc1⟩:∃z:Nat,z=u.heap.size:=⟨_,rfl⟩;have hin1:=alS hin;rw[←hc1]at hin1;obtain⟨a1,q1,rfl⟩:=hin.shape;refine⟨_,rfl,E3,fun S=>?_⟩;refine azd S fun u b4 E5 hb6 S=>azk S 0 rfl (fun u C7 S=>?_);have E8:=azg E5 C7;refine azu S fun S=>azd S fun u b12 EM aae S=>azd S fun u b15 EN vM S=>azk S 1 rfl (fun u C18 S=>?_);have KP:=azg (Ext.trans' E8 (Ext.trans' EM EN)) C18 (by have:=E8.size; omega);refine azk S 0 rfl (fun u yL S=>?_);have Aq:=azg KP yL (by have:=(Ext.trans' E8 EM).size; omega);have hcb:c1≤b12∧c1≤b15:=by have h1:=E8.size; have h2:=EM.size; omega
 have S:=S.fl;have hne:b12≠b15∧b4≠b12∧b4≠b15:=by have h:=S.apart; simp only[aAu,aAQ,aBN,azS,not_or]at h; exact⟨fun e=>h.1.1 e.symm,fun e=>h.2.1.1 e.symm,fun e=>h.1.2.1 e.symm⟩
 have S:=S.fl;refine Sx.FQ S 1 0 (by decide) rfl rfl (MK (v := .slice a1 (hB UH hk.k hk.es).length q1) (i:=0) (j:=(fQ (fP.app (dU UH))).length) S.E (S.lu 2) (S.lu 1) (S.lu 0) (S.old 1) (S.old 0) hne.1 hne.2.1 hne.2.2 (eF (aAj ((az1 hin1 Aq)))) hlL (afk hsl)) ?_;rintro e u ⟨x25,au1,rfl,hx25,⟨e125,apZ,au2⟩,au3,ap0,au4⟩;refine⟨_,au1,_,_,rfl,⟨e125,apZ,au2⟩,⟨au3,ap0,au4⟩,fun S=>?_⟩;have S:=S.fl;have Ux:=azg Aq apZ (by have:=E8.size; omega);have E27:=azg Ux ap0 (by have:=(Ext.trans' E8 EM).size; omega);have zs0:=(S.bx 0).1;have zs1:=(S.bx 1).1;have zs2:=(S.bx 2).1;refine azo S (DF (dw.below hg S.E) hx25 hsl) ?_;rintro e u ⟨v2,er2,rfl,hds,QC⟩;rw[alX]at hds;obtain⟨rfl,s1,rfl,hs1,hk1⟩:=TN.back hK (hso.below (Ext.trans' S.E QC)) hsv hds;refine⟨_,rfl,QC,fun S=>?_⟩;refine azd S fun u b29 E30 ay4 S=>azf S 0 rfl (fun u C32 S=>?_);have E33:=azg (Ext.trans' E27 (Ext.trans' QC E30)) C32 (by have:=(Ext.trans' E27 QC).size; omega);have E34:=azg E30 C32;refine adr S 7 [37,38] [.mem 1 0] fun S=>azu S (fun S=>?_);have S:=S.fl;refine Sx.FQ S 2 1 (by decide) rfl rfl (Ua (v := .slice a1 (hB UH hk.k hk.es).length q1) (i:=(fQ (fP.app (dU UH))).length) (j:=((fQ (fP.app (dU UH))).length+(dV 10 hk.k).length)) S.E (S.lu 3) (S.lu 2) (S.lu 1) (S.old 2) (S.old 1) hne.1 hne.2.1 hne.2.2 (eF (aAj ((az1 hin1 E33)))) (auW ai0)) ?_;rintro e u ⟨au5,rfl,⟨e138,c138,au6⟩,e238,alY,au7⟩;refine⟨_,au5,_,_,rfl,⟨e138,c138,au6⟩,⟨e238,alY,au7⟩,fun S=>?_⟩;have S:=S.fl;have UA:=azg E33 c138 (by have:=E8.size; omega);have GX:=(Sx.On.ch ((az1 hs1 E34)) c138 (by omega));have KQ:=azg UA alY (by have:=(Ext.trans' E8 EM).size; omega);have CV:=(Sx.On.ch GX alY (by omega));have S:=S.fl;refine Sx.FQ S 2 1 (by decide) rfl rfl (Ua (v := .slice a1 (hB UH hk.k hk.es).length q1) (i:=((fQ (fP.app (dU UH))).length+(dV 10 hk.k).length)) (j:=(hP UH hk.k hk.es.length []).length) S.E (S.lu 3) (S.lu 2) (S.lu 1) (S.old 2) (S.old 1) hne.1 hne.2.1 hne.2.2 (eF (aAj ((az1 hin1 KQ)))) (auX Zb)) ?_;rintro e u ⟨au8,rfl,⟨e143,c143,au9⟩,e243,alZ,ava⟩;refine⟨_,au8,_,_,rfl,⟨e143,c143,au9⟩,⟨e243,alZ,ava⟩,fun S=>?_⟩;have S:=S.fl;have Yb:=azg KQ c143 (by have:=E8.size; omega);have qR:=(Sx.On.ch CV c143 (by omega));have E46:=azg Yb alZ (by have:=(Ext.trans' E8 EM).size; omega);have Rf:=(Sx.On.ch qR alZ (by omega));have hold:=fun p hp=>(S.own p hp).1.1;have lM:=S.E.size;have zn0:=(S.bx 0).1;have zn1:=(S.bx 1).1;have zn2:=(S.bx 2).1;have zn3:=(S.bx 3).1;obtain⟨c0,hc0⟩:∃z:Nat,z=u.heap.size:=⟨_,rfl⟩;refine adr S 3 [] [.mem 0 0] fun S=>azo S (PE (aAj Rf) (dw.below hg S.E) (fun z hz=>afc (azT bD.ns hk1) (fun z hz=>((aAj Rf).2.2.2 z hz).2) hsl2 z hz) (hk1▸hsv)) ?_;rintro e u ⟨bh,H1,rfl,hb1,hX1,hm1,⟨hok1,avb⟩,E49⟩;rw[←hc0]at hb1 hm1 hold lM zn0 zn1 zn2 zn3;refine⟨_,rfl,E49,fun S=>?_⟩;have S:=S.adopt (A:=H1.cells) hX1 (by omega) (fun p hp=>by have:=hold p hp; omega) (fun m hm=>by cases hm);refine adr S 20 [52,53,56,57,58,61,62] [.mem 2 0,.re 58 (.bool ((hk.es.length:Int)<(hk.k:Int))) (.z),.re 62 (.bool ((256:Int)<(hk.es.length:Int))) (.z)] (hk:=⟨(azT Value.bool (aBj (by omega))),(azT Value.bool (aBj (by omega))),trivial⟩) fun S=>azu S fun S=>azw S (ι:=Nat×HD) (fun p a' w'=>(p.2.key=hk.upto p.1∧p.2.Ok 5000∧p.2.mem 5000 c0 bh w'∧Sx.On (fun i=>i<c1) (fun W=>jr W (.slice a1 (hB UH hk.k hk.es).length q1) (hB UH hk.k hk.es)) w'∧p.1≤hk.es.length)∧Sx.St w a' w' 106 [(0,v),(2,(.pointer none)),(3,.i 0),(4,.q b4 0),(5,.i 0),(6,.q b12 0),(7,.q b15 0),(8,.func (.func 44) #[] #[.q b4 0,.q b12 0,.q b15 0]),(9,.func (.func 46) #[] #[.q b4 0,.q b12 0,.q b15 0]),(10,.q b29 0),(11,.int .u64 (hk.k:Int)),(12,.int .u64 (hk.es.length:Int)),(13,.q bh 0),(64,.int .u64 (hk.es.length:Int)),(65,.int .u64 (p.1:Int))] [(bh,p.2.cells),(b29,s1.cells),(b15,[.bool true]),(b12,[.i (((hP UH hk.k hk.es.length (hk.es.take p.1)).length:Nat):Int)]),(b4,[.slice a1 ((hB UH hk.k hk.es).length) q1])] []) (fun p=>hk.es.length-p.1) (0,H1) (fun S=>⟨⟨avb.trans (by rw[hk1,←alX]; exact h0z),hok1,hm1,((az1 hin1 (Ext.trans' E46 E49))),azQ _⟩,S.sN⟩) ?_;rintro⟨j,H2⟩ ac u gW eH hI;try dsimp only at hI
 obtain⟨hR,S⟩:=hI;refine azx S (fun S=>?_);have lM:=S.E.size;refine azb S (decide ((j:Int)<(hk.es.length:Int))) (fun al0 S=>?_) (fun al0 S=>?_)
 ·have hj:j<hk.es.length:=by have:=azZ al0; omega
  obtain⟨ek,hek⟩:∃z,hk.es[j]?=some z:=⟨_,List.getElem?_eq_getElem hj⟩;have heb:=hel _ (List.mem_of_getElem? hek);have S:=S.fl;refine Sx.FQ S 3 2 (by decide) rfl rfl (MK (v := .slice a1 (hB UH hk.k hk.es).length q1) (i:=(hP UH hk.k hk.es.length (hk.es.take j)).length) (j:=(hP UH hk.k hk.es.length (hk.es.take (j+1))).length) S.E (S.lu 4) (S.lu 3) (S.lu 2) (S.old 3) (S.old 2) hne.1 hne.2.1 hne.2.2 (eF (aAj hR.2.2.2.1)) hlL (auY hek heb)) ?_;rintro e u ⟨x59,avc,rfl,avd,⟨ave,c159,x159⟩,e259,al1,avf⟩;refine⟨_,avc,_,_,rfl,⟨ave,c159,x159⟩,⟨e259,al1,avf⟩,fun S=>?_⟩;have S:=S.fl;have Ot:=(Sx.On.ch hR.2.2.1 c159 (by omega));have BL:=(Sx.On.ch hR.2.2.2.1 c159 (by omega));have Bv:=(Sx.On.ch Ot al1 (by omega));have wK:=(Sx.On.ch BL al1 (by omega));obtain⟨e0,he0,rfl⟩:=apY _ (List.mem_of_getElem? hek);have hem:=PG.hs.enc (List.mem_of_getElem? hek);refine azo S (EY (dw.below hg S.E) avd (DI hem.2)) ?_;rintro e u ⟨v4,er4,rfl,hde,E64⟩;obtain⟨rfl,e1,rfl,he1,hk4⟩:=TS.back hK ((heo _ he0).below (Ext.trans' S.E E64)) hem.1 hem.2 hde;refine⟨_,rfl,E64,fun S=>?_⟩;refine azd S fun u b65 E66 ay5 S=>azf S 0 rfl (fun u C68 S=>?_);have E69:=azg (Ext.trans' E64 E66) C68 (by have:=E64.size; omega);have E70:=azg (Ext.trans' E64 E66) C68 (by have:=E64.size; omega);have E71:=azg E66 C68;refine adr S 10 [76,77,80,81,83] [.mem 3 0,.mem 0 0] (fun S=>?_);have S:=S.fl;have hap:=PG.afn hek;refine azl S fun S=>Sx.Xz S 1 (some 82) rfl (mG hA (by rw[hk4]; exact hPe _ (List.mem_of_getElem? hek)) S.E (S.lu 1) (S.old 1) hb1 hR.2.1 ((az1 Bv E69)) (dw.below hg S.E) (aAj ((az1 he1 E71))) (Y5 (azT bZ.node hk4) (aAj ((az1 he1 E71))).2.2.2.2.2 (hok.e _ he0).2)) ?_;rintro e u ⟨H3,cd,rfl,ahK,afp,hm3,hE3,hC3,hX3⟩;rw[hR.1,hk4,hap,azP]at ahK;obtain⟨ahK,rfl⟩:=ahK;refine⟨_,_,rfl,hE3,hC3,hX3,fun ac S=>?_⟩;refine Sx.UG S (fun S=>?_);have W9:=(Sx.On.ch ((az1 Bv E69)) hC3 (by omega));have Wh:=(Sx.On.ch ((az1 wK E70)) hC3 (by omega));refine adr S 2 [76,77,80,81,83] [] fun S=>azu S fun S=>adr S 2 [] [.re 85 (.int .u64 (IntKind.u64.wrap ((j:Int)+1))) (.int .u64 (((j+1):Nat):Int))] (hk:=⟨(alV (by omega)),trivial⟩) fun S=>azy S gW (fun S=>?_);exact eH _ _ ((j+1),H3) ⟨⟨ahK,afp,hm3,Wh,hj⟩,(S.iH 1).sN⟩ (by show hk.es.length-(j+1)<hk.es.length-j; omega)
 refine adr S 6 [] [.re 88 (.i (IntKind.i64.wrap (hk.k:Int))) (.i hk.k)] (hk:=⟨(alW (by omega)),trivial⟩) fun S=>azk S 0 rfl (fun u yL S=>?_);have Oh:=(Sx.On.ch hR.2.2.1 yL (by omega));have Oi:=(Sx.On.ch hR.2.2.2.1 yL (by omega));obtain rfl:j=hk.es.length:=by have:=az4 al0; have:=hR.2.2.2.2; omega
 have hkG:(⟨H2.sa,H2.sc,H2.ss,H2.ea,H2.ec,H2.es,hk.k⟩:HD).key=hk:=by have:=PG.upto_all; rw[←hR.1]at this; exact this
 have abE:(⟨H2.sa,H2.sc,H2.ss,H2.ea,H2.ec,H2.es,hk.k⟩:HD).Ok 5000:=HD.Ok.au0 hR.2.1 _ (G:=H) (hkG.trans hhk) hok.k;have hmG:(⟨H2.sa,H2.sc,H2.ss,H2.ea,H2.ec,H2.es,hk.k⟩:HD).mem 5000 c0 bh u:=Oh;refine azo S (DL (H:=(⟨H2.sa,H2.sc,H2.ss,H2.ea,H2.ec,H2.es,hk.k⟩:HD)) (S.lu 0) abE hmG (dw.below hg S.E)) ?_;rintro e u ⟨v5,rfl,hov,E80⟩;have hmG:=az1 hmG E80;refine⟨_,rfl,E80,fun S=>?_⟩;refine adr S 10 [100,101,103] [] fun S=>azl S fun S=>Sx.zZ S (some 102) (azB (afm (kR _ _ _ _ _ (uT hov) (eF (hv.below S.E))) (by rw[hkG,aBp]))) ?_;rintro e u ⟨rfl,E82⟩;refine⟨_,rfl,E82,fun ac S=>?_⟩;refine Sx.UG S fun S=>adr S 2 [100,101,103] [] fun S=>azu S fun S=>Sx.QJ S (.q bh 0) (.i 0) (fun S=>?_);exact⟨bh,(⟨H2.sa,H2.sc,H2.ss,H2.ea,H2.ec,H2.es,hk.k⟩:HD),rfl,by omega,S.lu 0,HD.alU ((az1 hmG E82)) (by omega),abE,hkG.trans hhk,S.E⟩
end
section
structure Pg (n:aQ):Prop where
 c:n.chk=0
 i:n.id=1
 k:n.kind=1
 d:n.depth=0
def sK(n:aQ)(c:bC):bD:=⟨2,1,c,[n]⟩
theorem Pg.valid{n:aQ}(h:Pg n)(c:bC):(sK n c).valid=true:=by
 rw[bD.nD];refine⟨(by show(1:Int)≤2∧(2:Int)≤256∧(1:Int)≤1∧(1:Int)≤256; decide),(by show 1≤64; omega),?_,trivial⟩;exact Ed.2 ⟨h.c,fun κ hκ=>(by cases hκ),by rw[h.d]; exact Int.le_refl _⟩
def xk(c:bC):bZ:=⟨5,0,0,0,.zero,c⟩
theorem abG{s:bD}(h:s.valid=true)(c:bC):(⟨s.w,s.h,c,s.ns⟩:bD).valid=true:=by
 rw[bD.nD]at h ⊢;exact h
theorem MN{s:bD}(h:s.valid=true)(c:bC):fB s (xk c)=(⟨s.w,s.h,c,s.ns⟩,0):=
 aaC h (by simp[bZ.named,xk]) (by simp[mD,xk]) (abG h c)
theorem Pg.rm9{n:aQ}(h:Pg n)(c:bC):fB (sK n c) (.remove 9)=(.zero,8):=by
 have hf:nC (sK n c).ns 9=none:=VO.2 fun κ hκ=>by rw[aAb.1 hκ,h.i]; decide
 unfold fB;rw[azG (by rw[h.valid c]; decide),azG (by simp[bZ.named,bZ.remove])];have:mD (sK n c).ns (.remove 9) = .error 8:=by
  unfold mD;rw[azG (by decide),azI (show(bZ.remove 9).kind=2 from rfl),show(bZ.remove 9).id=9 from rfl,hf]
 rw[this]
end
section
open Go.RowKit
variable{α:Type}{K:Nat}
def vw(id:Int)(t:bG):aj:=⟨id,1,0,t,none,0,[],0,255,1,false,false,none,0,[],0,none,0,[],aS.bare,none,0,[],dB.bare,0⟩
def ap1:bC:=⟨0,0,0,0⟩
def afq(id:Int)(t:bG)(b:Nat):aj:=⟨id,3,0,t,none,0,[],0,0,0,false,false,none,0,[],0,none,0,[],aS.bare,none,0,[],⟨1,1,some ⟨b,0,none⟩,1,[ap1]⟩,1⟩
def TI(w:World)(t:bG):Prop:=t.ok w∧t.Is qI
theorem TI.below{w w':World}{t:bG}(h:TI w t)(hE:Ext w w'):TI w' t:=⟨h.1.below hE,h.2⟩
theorem TI.dX{w w':World}{t:bG}{b:Nat}{A:Array Value}(h:TI w t)(hc:Ch b w w')(hx:Bx w b A)(hA:A.toList.all AY=true:=by rfl):TI w' t:=⟨h.1.dX hc hx hA,h.2⟩
theorem bG.Is.q{t:bG}{Q:Q6}(h:t.Is Q)(hn:Bc Q):t.q=Q:=by
 obtain⟨n0,n1,n2,n3,n4,n5⟩:=hn;obtain⟨⟨a0,b0,c0,d0⟩,⟨a1,b1,c1,d1⟩,⟨a2,b2,c2,d2⟩,⟨a3,b3,c3,d3⟩,⟨a4,b4,c4,d4⟩,⟨a5,b5,c5,d5⟩⟩:=h;unfold bG.q;rw[KW a0 b0 c0 d0 n0,KW a1 b1 c1 d1 n1,KW a2 b2 c2 d2 n2,KW a3 b3 c3 d3 n3,KW a4 b4 c4 d4 n4,KW a5 b5 c5 d5 n5]
theorem bG.Is.fit{t:bG}{Q:Q6}{K:Nat}(h:t.Is Q)(hl:QG K Q):t.fit K:=by
 obtain⟨l0,l1,l2,l3,l4,l5⟩:=hl;obtain⟨h0,h1,h2,h3,h4,h5⟩:=h;exact⟨xM h0.2.1 h0.2.2.2 l0,xM h1.2.1 h1.2.2.2 l1,xM h2.2.1 h2.2.2.2 l2,xM h3.2.1 h3.2.2.2 l3,xM h4.2.1 h4.2.2.2 l4,xM h5.2.1 h5.2.2.2 l5⟩
def Ub(w:World)(id kind:Int)(nd:aj):Prop:=
 (kind=1∧∃t,TI w t∧nd=vw id t)∨(kind=2∧∃t,TI w t∧nd=iK id t)∨(kind=3∧∃t b,TI w t∧Bx w b #[.u 0,.u 0,.u 0,.u 0]∧nd=afq id t b)∨((kind≠1∧kind≠2∧kind≠3)∧nd=bK)
theorem Ji(w:World) :
  Calls Tryz.prog 84 #[.i 1,.i 0,.i 0,.i 1,.agg Sx.zr.toArray,.agg Sx.zr.toArray] w fun e w'=>∃x,e = .returned x∧Bz w.heap.size w' x qI∧Ext w w':=by
 skip;refine aze Tryz.func84 Tryz.ntmps84 fun S=>azh S Sx.zr fun u b2 E3 hb4 S=>azh S Sx.zr fun u b5 E6 hb7 S=>azh S Sx.za fun u b8 E9 zo S=>Sx.iZ S 12 [(14,fun v w1=>dO w.heap.size w1 v (false,1,1)),(16,fun v w1=>dO w.heap.size w1 v (false,0,1)),(18,fun v w1=>dO w.heap.size w1 v (false,0,1)),(20,fun v w1=>dO w.heap.size w1 v (false,1,1)),(22,fun v w1=>dO w.heap.size w1 v q0),(24,fun v w1=>dO w.heap.size w1 v q0)] (fun r=>[.mem 2 0,.mem 1 0]) (fun x=>[x 14,x 16,x 18,x 20,x 22,x 24]) (fun x=>[(_,_,true,x 14,14),(_,_,true,x 16,16),(_,_,true,x 18,18),(_,_,true,x 20,20),(_,_,true,x 22,22),(_,_,true,x 24,24)]) [[],[],[],[],[],[]] (fun x=>[(14,x 14),(16,x 16),(18,x 18),(20,x 20),(22,x 22),(24,x 24)]) ⟨fun _ _ _ k h=>h.ext k,fun _ _ _ k h=>h.ext k,fun _ _ _ k h=>h.ext k,fun _ _ _ k h=>h.ext k,fun _ _ _ k h=>h.ext k,fun _ _ _ k h=>h.ext k,trivial⟩ (fun x=>⟨by intro u hC g F; exact(je 1 _ (by decide)).mono fun e w2 h=>by obtain⟨y,rfl,hx,hb⟩:=h; exact⟨_,rfl,aA.mono hx ((Ext.trans' S.E hC)).size,hb⟩,by intro u hC g F; exact(je 0 _ (by decide)).mono fun e w2 h=>by obtain⟨y,rfl,hx,hb⟩:=h; exact⟨_,rfl,aA.mono hx ((Ext.trans' S.E hC)).size,hb⟩,by intro u hC g F; exact(je 0 _ (by decide)).mono fun e w2 h=>by obtain⟨y,rfl,hx,hb⟩:=h; exact⟨_,rfl,aA.mono hx ((Ext.trans' S.E hC)).size,hb⟩,by intro u hC g F; exact(je 1 _ (by decide)).mono fun e w2 h=>by obtain⟨y,rfl,hx,hb⟩:=h; exact⟨_,rfl,aA.mono hx ((Ext.trans' S.E hC)).size,hb⟩,by intro u hC g F; exact(mY _ q0 1 _ (bI.uN▸bI.toQ (bI.gy _) (bI.iD 1)) (by decide)).mono fun e w2 h=>by obtain⟨y,rfl,hx,hb⟩:=h; exact⟨_,rfl,hx.mono ((Ext.trans' S.E hC)).size,hb⟩,by intro u hC g F; exact(mY _ q0 1 _ (bI.uN▸bI.toQ (bI.gy _) (bI.iD 1)) (by decide)).mono fun e w2 h=>by obtain⟨y,rfl,hx,hb⟩:=h; exact⟨_,rfl,hx.mono ((Ext.trans' S.E hC)).size,hb⟩,trivial⟩) (fun u x qM F S=>?_);obtain⟨ZY,F16,F18,F20,yR,F24,-⟩:=F;obtain⟨r0,e0⟩:=aA.iK ZY;rw[e0]at S ZY;try rw[e0]
 obtain⟨r1,e1⟩:=aA.iK F16;rw[e1]at S F16;try rw[e1]
 obtain⟨r2,e2⟩:=aA.iK F18;rw[e2]at S F18;try rw[e2]
 obtain⟨r3,e3⟩:=aA.iK F20;rw[e3]at S F20;try rw[e3]
 obtain⟨r4,e4⟩:=aA.iK yR;rw[e4]at S yR;try rw[e4]
 obtain⟨r5,e5⟩:=aA.iK F24;rw[e5]at S F24;try rw[e5]
 have JA:=S.bx 0;refine azm S 0 (off:=0) (cs:=(r0.cells++r1.cells++r2.cells++r3.cells++r4.cells++r5.cells)) rfl (fun u C13 S=>?_);have oN:=aA.dX ZY C13 JA;have EI:=aA.dX F16 C13 JA;have vO:=aA.dX F18 C13 JA;have EH:=aA.dX F20 C13 JA;have oO:=aA.dX yR C13 JA;have CW:=aA.dX F24 C13 JA;refine azq S 0 rfl (v := .agg (r0.cells++r1.cells++r2.cells++r3.cells++r4.cells++r5.cells).toArray) (fun S=>?_);exact⟨_,rfl,⟨⟨r0,r1,r2,r3,r4,r5⟩,rfl,oN,EI,vO,EH,oO,CW⟩,S.E⟩
theorem EZ(w:World) :
  Calls Tryz.prog 52 #[] w fun e w'=>∃t:bG,e = .returned t.v∧TI w' t∧Ext w w':=by
 skip;refine aze Tryz.func52 Tryz.ntmps52 fun S=>azh S Sx.za fun u b2 E3 hb4 S=>azo S (Ji _) ?_;rintro e u ⟨x,rfl,hm,E6⟩;obtain⟨m,rfl,hm⟩:=hm;obtain⟨t,e,ho,hi⟩:=VH hm;rw[e];refine⟨_,rfl,E6,fun S=>?_⟩;have X8:=S.bx 0;refine azm S 0 (off:=0) (cs:=t.cells) rfl (fun u C7 S=>?_);have Fs9:=TI.dX (⟨ho,hi⟩:TI _ t) C7 X8;refine azq S 0 rfl (v:=t.v) (fun S=>?_);exact⟨t,rfl,Fs9,S.E⟩
theorem TI.fit{w:World}{t:bG}(h:TI w t)(hK:1≤K):t.fit K:=by
 obtain⟨h1,h2,h3,h4,h5,h6⟩:=h.2.fit ajN;exact⟨h1.mono hK,h2.mono hK,h3.mono hK,h4.mono hK,h5.mono hK,h6.mono hK⟩
theorem Ub.ok{w:World}{id kind:Int}{nd:aj}(h:Ub w id kind nd)(hi:I64 id)(hK:1≤K)(hK2:K≤10000):eu K w nd:=by
 rcases h with ⟨-,t,ht,rfl⟩ | ⟨-,t,ht,rfl⟩ | ⟨-,t,b,ht,hb,rfl⟩ | ⟨-,rfl⟩
 ·exact⟨⟨hi,(show I64 1 by decide),eY,ht.1,oQ w,eY,(show I64 1 by decide),oQ w,eY,kM w,aS.gB w,kM w,dB.gB w,eY⟩,ht.fit hK,fun p hp=>(by cases hp),fun p hp=>(by cases hp),hK,hK2⟩
 ·exact aao hi ht.1 (ht.fit (azJ 1)) hK hK2
 ·refine⟨⟨hi,(show I64 3 by decide),eY,ht.1,oQ w,eY,eY,oQ w,eY,kM w,aS.gB w,kM w,⟨(show I64 1 by decide),(show I64 1 by decide),?_⟩,(show I64 1 by decide)⟩,ht.fit hK,fun p hp=>(by cases hp),fun p hp=>(by cases hp),hK,hK2⟩;refine⟨some ⟨b,0,none⟩,1,rfl,by decide,.inr ⟨b,0,rfl,hb.1,azJ _,fun i hi j hj=>?_⟩⟩;obtain rfl:i=0:=by simp[afq]at hi; exact hi
  have:=hb.2.1 j;rw[show 0+0*4+j=j by omega,this];show _=(bC.cells ap1)[j]?;rw[←List.getElem?_toArray];rfl
 exact gJ w hK hK2
theorem Ub.check{w:World}{id kind:Int}{nd:aj}(h:Ub w id kind nd):(nd.checkN==0)=((((decide (1≤id))&&(decide (id≤1073741824)))&&(decide (1≤kind)))&&(decide (kind≤3))):=by
 have hv:qI.valid=true:=by decide
 have hd:pG qI.D5 q0=false:=by decide
 have key:∀(n:aj),n.jP=[(false,2),((((decide (id<1))||(decide (1073741824<id)))||false)||false,6),(!n.t.q.valid,5),(pG n.t.q.D5 q0,9),(false,10),(false,17)]→n.t.q=qI→n.qP=0→(n.checkN==0)=((decide (1≤id))&&(decide (id≤1073741824))):=by
  intro n hL hq ho;unfold aj.checkN;rw[hL,hq,hv,hd,ho];rw[aAV];by_cases h1:id<1
  ·simp[badL,mW,h1]; omega
  by_cases h2:1073741824<id
  ·simp[badL,mW,h2];try omega
  simp[badL,mW,h1,h2]; omega
 rcases h with ⟨rfl,t,ht,rfl⟩ | ⟨rfl,t,ht,rfl⟩ | ⟨rfl,t,b,ht,-,rfl⟩ | ⟨⟨k1,k2,k3⟩,rfl⟩
 ·rw[key _ rfl (ht.2.q NM) rfl]; simp
 ·rw[key _ rfl (ht.2.q NM) rfl]; simp
 ·rw[key _ rfl (ht.2.q NM) rfl]; simp
 rw[NP];symm;rw[aAV];simp only[azY,azW,azU];omega
theorem ahL{w:World}{a b:aj}(h:eu K w a)(h':eu K w b):Calls Tryz.prog 37 #[a.v,b.v] w fun e w'=>e = .returned (.bool (a.key=b.key))∧Ext w w':=by
 rw[←agH h.nrm h'.nrm]; exact N7 h h'
set_option maxRecDepth 100000 in
set_option maxHeartbeats 3200000 in
theorem Uc{w:World}{s t:aJ}(h:dJ K w s)(h':dJ K w t) :
  Calls Tryz.prog 16 #[s.v,t.v] w fun e w'=>e = .returned (.bool (s.key=t.key))∧Ext w w':=by
 have hmax:s.ns.length≤9223372036854775807:=h.2.2.1.len;refine aze Tryz.func16 Tryz.ntmps16 (fun S=>?_);obtain⟨a,cap,es⟩:∃a c,s.s = .slice a s.ns.length c:=⟨_,_,rfl⟩;have hr:=h.2.2.1;rw[es]at hr;obtain⟨d,cap',et⟩:∃a c,t.s = .slice a t.ns.length c:=⟨_,_,rfl⟩;have hr':=h'.2.2.1;rw[et]at hr';refine azd S fun u b2 E3 hb4 S=>azd S fun u b5 E6 hb7 S=>adr S 29 [] [.mem 1 0,.mem 0 0,.mem 1 1,.mem 0 1,.mem 1 2,.mem 0 2,.cmp .neq 40 (.tmp 20) (.tmp 22) (.agg #[.u (s.bg.r.toNat:Int),.u (s.bg.g.toNat:Int),.u (s.bg.b.toNat:Int),.u (s.bg.a.toNat:Int)]) (.agg #[.u (t.bg.r.toNat:Int),.u (t.bg.g.toNat:Int),.u (t.bg.b.toNat:Int),.u (t.bg.a.toNat:Int)]) (.bool (!decide (s.bg=t.bg))),.mem 1 6,.re 27 s.s (.slice a s.ns.length cap),.mem 0 6,.re 30 t.s (.slice d t.ns.length cap')] (hk:=⟨(azD (fun _=>adL s.bg t.bg _) (by kernel_rfl)),es,et,trivial⟩) fun S=>azb S (((((s.w) != t.w)||((s.h) != t.h))||(!decide (s.bg=t.bg)))||(((s.ns.length:Int)) != (t.ns.length:Int))) (fun fK S=>?_) (fun fK S=>?_)
 ·refine ay9 S (.z) (fun S=>?_);exact⟨aN (am1 fK),S.E⟩
 refine azw S (ι:=Nat) (fun p a' w'=>p≤s.ns.length∧((keys s.ns).take p=(keys t.ns).take p)∧Sx.St w a' w' 53 [(0,s.v),(1,t.v),(2,.q b2 0),(3,.q b5 0),(4,.z),(5,.i p)] [(b5,t.cells),(b2,s.cells)] []) (fun p=>s.ns.length-p) (0) (fun S=>⟨azQ _,rfl,S.sN⟩) ?_;rintro k ac u gW eH hI;try dsimp only at hI
 obtain⟨hk,hR,S⟩:=hI;refine azx S fun S=>adr S 5 [] [.mem 1 6,.re 36 s.s (.slice a s.ns.length cap)] (hk:=⟨es,trivial⟩) fun S=>azb S (decide ((k:Int)<(s.ns.length:Int))) (fun hc16 S=>?_) (fun hc16 S=>?_)
 ·have zO:k<s.ns.length:=by have:=azZ hc16; omega
  obtain⟨b20,o21,rfl,oL,hx24,ND,aay⟩:=aAe hr (fun _=>rfl) (k) zO;have S:=S.view0 ND aay;have zQ:k<t.ns.length:=by have:=adM fK; have:=azZ hc16; omega
  obtain⟨b28,o29,rfl,y34,hx32,adD,adE⟩:=aAe hr' (fun _=>rfl) (k) zQ;have S:=S.view0 adD adE;refine azs S 12 [.mem 1 6,.re 42 s.s (.slice (some ⟨b20,o21,none⟩) s.ns.length cap),.idx k s.ns.length,.mem 3 0,.mem 0 6,.re 47 t.s (.slice (some ⟨b28,o29,none⟩) t.ns.length cap'),.idx k t.ns.length,.mem 2 0] [(_,_,true,.bool (oL.key=y34.key))] [(52,.bool (!(decide (oL.key=y34.key))))] ⟨fun u hC g=>ahL ((h.2.2.2 _ (hx24▸aAc zO)).below (Ext.trans' S.E hC)) ((h'.2.2.2 _ (hx32▸aAc zQ)).below (Ext.trans' S.E hC)),trivial⟩ (hk:=⟨es,zO,et,zQ,trivial⟩) fun u KP S=>azb S (!(decide (oL.key=y34.key))) (fun qA S=>?_) (fun qA S=>?_)
  ·refine ay9 S (.z) (fun S=>?_);exact⟨aN (aiq fK (am0 zO zQ hx24 hx32 qA)),S.E⟩
  refine adr S 3 [] [.re 40 (.i (IntKind.i64.wrap ((k:Int)+1))) (.i (k+1:Nat))] (hk:=⟨azt (by omega),trivial⟩) fun S=>azy S gW (fun S=>?_);exact eH _ _ (k+1) ⟨by omega,(agL zO zQ hR hx24 hx32 qA),S.sN⟩ (by show _-_<_-_; omega)
 refine ay9 S (.bool true) (fun S=>?_);exact⟨aN (aiq fK (akg (by have:=az4 hc16; omega) (adM fK) hR)),S.E⟩
end
end Go.Proofs.YtodpgjjgaddkeaaGreatDoor
