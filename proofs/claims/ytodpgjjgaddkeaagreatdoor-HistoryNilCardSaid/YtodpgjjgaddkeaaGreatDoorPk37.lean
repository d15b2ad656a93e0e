/- Package history: its operations on a history. Reading a -/
import Derived.Test.YtodpgjjgaddkeaaGreatDoorPk36
set_option maxHeartbeats 1600000
set_option maxRecDepth 100000
set_option linter.unusedVariables false
set_option linter.unusedSimpArgs false
namespace Go.Proofs.YtodpgjjgaddkeaaGreatDoor
section
open Go.RowKit
variable{α:Type}{K:Nat}
set_option maxRecDepth 100000 in
set_option maxHeartbeats 3200000 in
theorem Ad{P:dw→Prop}(hA:ApC P){w0 w:World}{b c:Nat}{H:HD}{e:bn}(hP:P e.key)(hE:Ext w0 w)(hx:Bx w b H.cells.toArray)(hb:w0.heap.size≤b)(hcb:c≤b)(hok:H.Ok K)(hm:H.mem K c b w)(hg:dO w)(he:iF K w e)(hel:e.node.lim) :
  Calls Tryz.prog 13 #[.q b 0,e.v] w fun r w'=>∃(H':HD) (code:Int),r = .returned (.i code)∧(H'.key,code)=H.key.app e.key∧H'.Ok K∧H'.mem K c b w'∧Ext w0 w'∧Ch b w w'∧Bx w' b H'.cells.toArray:=by
 skip;refine azr Tryz.func13 Tryz.ntmps13 hE hx hb fun S=>ay2 S fun u b2 E3 hb4 S=>aAx S (oH (S.bx 1)) fun S=>azg S fun S=>adr S 6 [] [.mem 1 2] fun S=>ay0 S (((H.k:Int))==256) (fun Jt S=>?_) (fun Jt S=>?_)
 ·refine apB S (.i 5) (fun S=>?_);exact⟨H,5,rfl,by unfold HK.app; rw[azv (show H.key.k=256 from by have:=Jt; simp at this; exact(by omega:H.k=256))],hok,((azT hm E3)),S.E,((Ch.trans (Ch.refl b w) (Ch.aZ E3))),S.kG 1⟩
 refine azi S 4 [.mem 0 0] [] [(15,.q b 0),(16,e.v)] trivial (fun u qE S=>?_);have hwu:Ext w u:=(Ext.trans' E3 qE);have hk:H.k≠256:=by have:=Jt; simp at this; omega
 have hch:=((Ch.trans (Ch.refl b w) (Ch.aZ (Ext.trans' E3 qE))));refine aza S 1 rfl (ae9 hA hP S.E (S.bx 1) hb hcb hok ((azT hm (Ext.trans' E3 qE))) hk (dO.below hg hwu) (he.below hwu) hel) ?_;rintro e u ⟨H1,code,rfl,hkk,hok1,hm1,hE1,hC1,hX1⟩;refine⟨_,_,rfl,hE1,hC1,hX1,fun S=>?_⟩;refine apB S (.i code) (fun S=>?_);exact⟨H1,code,rfl,by unfold HK.app; rw[azu (show ¬H.key.k=256 from hk)]; exact hkk,hok1,hm1,S.E,Ch.trans hch hC1,S.kG 1⟩
theorem afa{w0 w:World}{b c:Nat}{H:HD}(hE:Ext w0 w)(hx:Bx w b H.cells.toArray)(hb:w0.heap.size≤b)(hcb:c≤b)(hok:H.Ok K)(hm:H.mem K c b w) :
  Calls Tryz.prog 14 #[.q b 0] w fun r w'=>∃(H':HD) (code:Int),r = .returned (.i code)∧(H'.key,code)=H.key.undo∧H'.Ok K∧H'.mem K c b w'∧Ext w0 w'∧Ch b w w'∧Bx w' b H'.cells.toArray:=
 (abg hE hx hb (by have:=hok.le; omega)).mono fun e w' h=>by
  rcases h with ⟨h0,rfl,h1,h2,h3⟩ | ⟨k',hk',rfl,h1,h2,h3⟩
  ·exact⟨H,20,rfl,by unfold HK.undo; rw[azv (show H.key.k=0 from h0)],hok,HD.Pq hm h2,h1,h2,h3⟩
  ·have e1:(HD.key ⟨H.sa,H.sc,H.ss,H.ea,H.ec,H.es,k'⟩,(0:Int))=H.key.undo:=by
    unfold HK.undo
    rw[azu (show ¬H.key.k=0 from by show ¬H.k=0; omega)]
    unfold HD.key
    simp only[hk',Nat.add_sub_cancel]
   have e2:=hok.k.undo
   rw[←e1]at e2
   exact⟨⟨H.sa,H.sc,H.ss,H.ea,H.ec,H.es,k'⟩,0,rfl,e1,⟨e2,hok.s,hok.e⟩,HD.Pq hm h2,h1,h2,h3⟩
theorem afb{w0 w:World}{b c:Nat}{H:HD}(hE:Ext w0 w)(hx:Bx w b H.cells.toArray)(hb:w0.heap.size≤b)(hcb:c≤b)(hok:H.Ok K)(hm:H.mem K c b w) :
  Calls Tryz.prog 15 #[.q b 0] w fun r w'=>∃(H':HD) (code:Int),r = .returned (.i code)∧(H'.key,code)=H.key.redo∧H'.Ok K∧H'.mem K c b w'∧Ext w0 w'∧Ch b w w'∧Bx w' b H'.cells.toArray:=
 (abh hE hx hb (by have:=hok.le; omega)).mono fun e w' h=>by
  have hl:H.key.es.length=H.es.length:=aAQ ..
  rcases h with ⟨h0,rfl,h1,h2,h3⟩ | ⟨h0,rfl,h1,h2,h3⟩
  ·exact⟨H,20,rfl,by unfold HK.redo; rw[azv (show H.key.k=H.key.es.length from by rw[hl]; exact h0)],hok,HD.Pq hm h2,h1,h2,h3⟩
  ·have e1:(HD.key ⟨H.sa,H.sc,H.ss,H.ea,H.ec,H.es,H.k+1⟩,(0:Int))=H.key.redo:=by
    unfold HK.redo
    rw[azu (show ¬H.key.k=H.key.es.length from by rw[hl]; exact h0)]; rfl
   have e2:=hok.k.redo
   rw[←e1]at e2
   exact⟨⟨H.sa,H.sc,H.ss,H.ea,H.ec,H.es,H.k+1⟩,0,rfl,e1,⟨e2,hok.s,hok.e⟩,HD.Pq hm h2,h1,h2,h3⟩
theorem Pv{w:World}{b c:Nat}{H:HD}(hx:Bx w b H.cells.toArray)(hok:H.Ok K)(hm:H.mem K c b w) :
  Calls Tryz.prog 17 #[.q b 0] w fun r w'=>∃m:aI,r = .returned m.v∧fU w.heap.size m.s m.ns w'∧dI K w' m∧m.key=H.key.now∧(∀n∈m.ns,n.zQ K)∧Ext w w':=
 have hR:=az8 hm
 have hq:=azZ hok.lt
 (Xj hx hR.1.1 hok.lt (hR.1.2 _ hq) (fun n hn=>(hok.s _ hq n hn).2) (by have:=TR (hok.val hq); omega)).mono fun e w' ⟨m,h1,h2,h3,h4,h5,h6,h7⟩=>by
  have hf:∀n∈m.ns,n.zQ K:=fun n hn=>⟨fits_all h3 (fun n hn=>(hok.s _ hq n hn).1) n hn,zO h3 (fun n hn=>(hok.s _ hq n hn).2) n hn⟩
  exact⟨m,h1,h2,⟨h4▸(hR.1.2 _ hq).1,h5▸(hR.1.2 _ hq).2.1,fU.ok h2 fun n hn=>(hf n hn).1⟩,by rw[HD.Po hok.lt]; unfold aI.key; rw[h4,h5,h6]; exact azH _ (zL h3),hf,h7⟩
end
section
open En
variable{K:Nat}
theorem Py{c:Nat}:∀{l:List dw},(∀e∈l,(eB e).length≤c)→(l.flatMap eB).length≤l.length*c
 | [],_=>azB _
 | x::r,h=>by
  have h1:=h x azJ
  have h2:=Py (l:=r) fun e he=>h e (aAI _ he)
  rw[aAD,azz,aAb,Nat.succ_mul]
  omega
theorem HD.Ok.aiJ{H:HD}(h:H.Ok K):∀e∈H.key.es,(eB e).length≤60000010:=fun e he=>by
 obtain⟨x,hx,rfl⟩:=azX.1 he;have h1:=Dp (e:=x) (h.k.hs.enc he).2;have h2:=IE (fO.app (jW x.key));unfold eB;omega
theorem HD.Ok.aiK{H:HD}(h:H.Ok K){s:aI}(hs:s∈H.ss):(fO.app (dU s.key)).length≤60000000:=Xo (h.val hs)
def hP(s:bD)(k n:Nat)(l:List dw):List UInt8:=fQ (fO.app (dU s))++(dV 10 k++(dV 10 n++l.flatMap eB))
theorem aiL(s:bD)(k:Nat)(es:List dw):hB s k es=hP s k es.length es:=rfl
theorem afc{s:bD}{k:Nat}{es:List dw}(h1:(fO.app (dU s)).length≤60000000)(h2:∀e∈es,(eB e).length≤60000010)(h3:es.length≤256):(hB s k es).length≤20000000000:=by
 have a1:=IE (fO.app (dU s));have a2:=iE 10 k;have a3:=iE 10 es.length;have a4:=Py h2;have a5:es.length*60000010≤256*60000010:=aAW _ h3;unfold hB;simp only[azz];omega
theorem afd{s:bD}{k:Nat}{es:List dw}(h1:(fO.app (dU s)).length≤60000000):Yc (hB s k es) (0:Nat) (hB s k es).length=(fO.app (dU s),(fQ (fO.app (dU s))).length,0):=by
 have:=YH [] (dV 10 k++(dV 10 es.length++es.flatMap eB)) (fO.app (dU s)) (hB s k es).length (by omega) (by unfold hB fQ; simp only[azz]; omega);simp only[aAv,aAH,aAq]at this;exact this
theorem auM{s:bD}{k:Nat}{es:List dw}(hk:k≤256):xk (hB s k es) ((fQ (fO.app (dU s))).length:Nat)=(k,(fQ (fO.app (dU s))).length+(dV 10 k).length,0):=
 YG (fQ (fO.app (dU s))) (dV 10 es.length++es.flatMap eB) k (by omega)
theorem auN{s:bD}{k:Nat}{es:List dw}(hk:es.length≤256):xk (hB s k es) ((fQ (fO.app (dU s))).length+(dV 10 k).length:Nat)=(es.length,(hP s k es.length []).length,0):=by
 have:=YG (fQ (fO.app (dU s))++dV 10 k) (es.flatMap eB) es.length (by omega);rw[azO,azz]at this;unfold hP hB;rw[this];simp only[azz,List.flatMap_nil,aAA,aBi]
theorem auO{s:bD}{k j:Nat}{es:List dw}{e:dw}(he:es[j]?=some e)(h2:(eB e).length≤60000010):Yc (hB s k es) ((hP s k es.length (es.take j)).length:Nat) (hB s k es).length=(fO.app (jW e),(hP s k es.length (es.take (j+1))).length,0):=by
 obtain⟨hj,rfl⟩:=List.getElem?_eq_some_iff.1 he;have e0:es=es.take j++(es[j]::es.drop (j+1)):=by rw[List.getElem_cons_drop,aBr]
 have e1:hB s k es=hP s k es.length (es.take j)++(fQ (fO.app (jW es[j]))++(es.drop (j+1)).flatMap eB):=by
  rw[aiL];conv=>lhs; rw[hP]
  rw[hP];simp only[azO];congr 3;conv=>lhs; rw[e0]
  rw[aA9,aAD]; rfl
 have h3:(fO.app (jW es[j])).length≤(eB es[j]).length:=by unfold eB fQ; rw[azz]; omega
 have hl:((fO.app (jW es[j])).length:Int)≤((hB s k es).length:Int):=by
  rw[e1]; unfold fQ; simp only[azz]; omega
 have:=YH (hP s k es.length (es.take j)) ((es.drop (j+1)).flatMap eB) (fO.app (jW es[j])) (hB s k es).length (by omega) hl;rw[←e1]at this;rw[this];have e4:(hP s k es.length (es.take (j+1))).length=(hP s k es.length (es.take j)).length+(fQ (fO.app (jW es[j]))).length:=by
  rw[aAz hj];unfold hP;simp only[aA9,aAD,List.flatMap_nil,aAA,azz];unfold eB;omega
 rw[e4]
theorem HK.abq{ss:List bD}{es:List dw}(h:Hs ss es){j:Nat}{e:dw}(he:es[j]?=some e):HK.put ⟨ss.take (j+1),es.take j,j⟩ e=(⟨ss.take (j+2),es.take (j+1),j+1⟩,0):=by
 obtain⟨a,b,h1,h2,h3⟩:=h.step j e he;obtain⟨hj,rfl⟩:=List.getElem?_eq_some_iff.1 he;have hl:=h.len;have hn:HK.now ⟨ss.take (j+1),es.take j,j⟩=a:=by
  unfold HK.now;simp only;rw[List.getElem?_take_of_lt (by omega),h1]; rfl
 unfold HK.put;rw[hn,h3,azv rfl];simp only[azA,HK.mk.injEq,and_true];obtain⟨hb,rfl⟩:=List.getElem?_eq_some_iff.1 h2;refine⟨?_,?_⟩
 ·rw[List.take_take,Nat.min_self,←aAz hb]
 rw[List.take_take,Nat.min_self,←aAz hj]
def HK.bytes(h:HK):List UInt8:=fO.app (hB ((h.ss[0]?).getD .zero) h.k h.es)
theorem HD.bytes_eq{H:HD}{s:aI}(hs:H.ss[0]?=some s):fO.app (hP s.key H.k H.es.length (H.es.map bn.key))=H.key.bytes:=by
 unfold HK.bytes HD.key;simp only[List.getElem?_map,hs,aAj,Option.getD_some,aiL,aAQ]
theorem Y0{s:bD}{k n j:Nat}{es:List bn}{x:bn}(hj:j<es.length)(hx:es[j]=x):hP s k n ((es.map bn.key).take (j+1))=hP s k n ((es.map bn.key).take j)++eB x.key:=by
 rw[aAz (by simpa using hj),List.getElem_map,hx];unfold hP;simp only[aA9,aAD,List.flatMap_nil,aAA,azO]
theorem HD.Ok.apN{H:HD}(h:H.Ok K){s:bD}(h1:(fO.app (dU s)).length≤60000000)(k n j:Nat):(hP s k n ((H.es.map bn.key).take j)).length≤20000000000:=by
 have a1:=IE (fO.app (dU s));have a2:=iE 10 k;have a3:=iE 10 n;have a4:=Py (l:=(H.es.map bn.key).take j) fun e he=>h.aiJ e (aBU he);have a6:((H.es.map bn.key).take j).length≤256:=by have:=h.le; rw[aAZ,aAQ]; omega
 have a5:((H.es.map bn.key).take j).length*60000010≤256*60000010:=aAW _ a6;unfold hP;simp only[azz];omega
end
section
open Go.RowKit En
variable{α:Type}{K:Nat}
theorem Y1{n:Nat}(h:n≤1000000):Value.int .u64 (IntKind.u64.wrap (n:Int)) = .int .u64 (n:Int):=wrap_u64 (by omega)
set_option maxRecDepth 100000 in
set_option maxHeartbeats 3200000 in
theorem MF{w:World}{b c:Nat}{H:HD}(hx:Bx w b H.cells.toArray)(hok:H.Ok K)(hm:H.mem K c b w)(hg:dO w) :
  Calls Tryz.prog 10 #[.q b 0] w fun r w'=>∃v,r = .returned (.tuple #[v,.i 0])∧OwnB w.heap.size w' v H.key.bytes∧Ext w w':=by
 obtain⟨sa,sc,ss,ea,ec,es,ka⟩:=H;have hW:=az8 hm;have hlen:ss.length=es.length+1:=hok.len;have hle:ka≤es.length∧es.length≤256:=hok.le;have hpos:0<ss.length:=by omega
 have hmax:es.length≤9223372036854775807:=by omega
 refine ay3 Tryz.func10 Tryz.ntmps10 (fun S=>?_);have S:=S.view0 hx.1 (hx.range 0 4 rfl);refine aAx S (oH hx) fun S=>azg S (fun S=>?_);have afe:0<ss.length:=hpos;obtain⟨b5,o6,rfl,s11,hx9,Ew,hr8⟩:=az2 hW.1.1 (fun _=>rfl) (0) afe;have S:=S.view0 Ew hr8;have hs0:ss[0]?=some s11:=by rw[List.getElem?_eq_getElem hpos,hx9]
 have hsv:=hok.val (s:=s11) (hx9▸azZ afe);have hsl:=hok.aiK (s:=s11) (hx9▸azZ afe);refine adr S 7 [] [.mem 1 0,.idx 0 ss.length,.mem 0 0] (hk:=⟨afe,trivial⟩) fun S=>aze S (vg ((hW.1.2 _ (hx9▸azZ afe)).below S.E) (dO.below hg S.E)) ?_;rintro e u ⟨v1,er1,rfl,hsc,Es⟩;obtain⟨rfl,ho1⟩:=TB.good hsc hsv;refine⟨_,rfl,Es,fun S=>?_⟩;refine azg S (fun S=>?_);have S0:=S.E.size;refine azk S (nP _ _ _ (uI ho1) (by omega)) (fun v2 u ho2 yE S=>?_);have R:=kD (aAc S) ho2 (fun p hp=>by cases hp) S0;have hB0:=hok.apN hsl ka es.length;have hB:(fQ (fO.app (dU s11.key))++dV 10 ka++dV 10 es.length).length≤20000000000:=by have:=hB0 0; simpa[hP]using this
 have hB1:=hB;simp only[azz]at hB1;refine adr S 8 [] [.mem 1 2,.re 35 (.int .u64 (IntKind.u64.wrap (ka:Int))) (.int .u64 (ka:Int))] (hk:=⟨(Y1 (by omega)),trivial⟩) fun S=>azk S (fK ka _ (by omega)) (fun u1 u hu1 Kv S=>?_);obtain⟨R,Y20⟩:=R.bP S (azV Kv);refine ay7 S fun S=>azl S R 37 (dV 10 ka) (jE (hu1)) (by simp only[azz]at hB ⊢; omega) fun ac u v21 X22 R S=>azh S (fun S=>?_);have S:=S.view0 hx.1 (hx.range 0 4 rfl);refine adr S 9 [] [.mem 0 1,.re 45 (.int .u64 (IntKind.u64.wrap (es.length:Int))) (.int .u64 (es.length:Int))] (hk:=⟨(Y1 (by omega)),trivial⟩) fun S=>azk S (fK es.length _ (by omega)) (fun u2 u hu2 Cm S=>?_);obtain⟨R,Y25⟩:=R.bP S (azV Cm);refine ay7 S fun S=>azl S R 47 (dV 10 es.length) (jE (hu2)) (by simp only[azz]at hB ⊢; omega) fun ac u v26 X27 R S=>azh S (fun S=>?_);have S:=S.view0 hx.1 (hx.range 0 4 rfl);refine adr S 8 [] [.mem 0 1] fun S=>azm S (ι:=Nat×Value) (fun p a' w'=>p.1≤es.length∧(True)∧Sx.Rw w w' [] [⟨5,1,p.2,(hP s11.key ka es.length ((es.map bn.key).take p.1)).length,(hP s11.key ka es.length ((es.map bn.key).take p.1)).map gK⟩]∧Sx.St w a' w' 73 [(0,.q b 0),(2,.sn),(3,.i 0),(4,v1),(5,.i 0),(6,p.2),(52,.slice ea es.length ec),(53,.i es.length),(54,.i p.1)] [] []) (fun p=>es.length-p.1) (0,v26) (fun S=>⟨azB _,trivial,R.as (show [Sx.bR v26 (fQ (fO.app (dU s11.key))++(dV 10 ka)++(dV 10 es.length))]=[Sx.bR v26 (hP s11.key ka es.length ((es.map bn.key).take 0))] by simp[hP]),S.sn⟩) ?_;rintro⟨k,v⟩ ac u ig eU hI;try dsimp only at hI
 obtain⟨hk,hR,R,S⟩:=hI;refine azn S fun S=>ay0 S (decide ((k:Int)<(es.length:Int))) (fun hc32 S=>?_) (fun hc32 S=>?_)
 ·have abr:k<es.length:=by have:=azN hc32; omega
  obtain⟨b35,o36,rfl,x41,hx39,aju,auP⟩:=az2 hW.2.1 (fun _=>rfl) (k) abr;have S:=S.view0 aju auP;refine adr S 2 [] [.idx k es.length,.mem 0 0] (hk:=⟨abr,trivial⟩) fun S=>ay6 S (Sx.L [.i 0,.i 0,.i 0,.i 0,.i 0,.i 0,.i 0]++Sx.za++Sx.L [.sn,.i 0,.u 0,.i 0,.z,.z,.sn,.i 0,.sn,.i 0,.i 0,.i 0,.i 0,.sn,.i 0,.sn,.i 0,.i 0,.sn,.i 0,.u 0,.u 0,.u 0,.u 0]) fun u b43 XZ UZ S=>azc S 0 (off:=0) (cs:=x41.cells) rfl (fun u Ur S=>?_);have hem:=hok.k.hs.enc (e:=x41.key) (azX.2 ⟨_,(hx39▸azZ abr),rfl⟩);have hel:=Dp (e:=x41) hem.2;refine adr S 1 [] [.mem 0 0] fun S=>aze S (wR ((hW.2.2 _ (hx39▸azZ abr)).below S.E) (dO.below hg S.E)) ?_;rintro e u ⟨v4,er4,rfl,hec,NM⟩;obtain⟨rfl,ho4⟩:=TK.good hec hem.1 hem.2;refine⟨_,rfl,NM,fun S=>?_⟩;refine azg S fun S=>azk S (nP _ _ _ (uI ho4) (by omega)) (fun v5 u ho5 E51 S=>?_);have hB:=hB0 (k+1);rw[Y0 abr hx39]at hB;obtain⟨R,Y52⟩:=R.bP S (azP (aAB XZ UZ) (azP (Sx.Stp.Oe Ur) (azP (azV NM) (azV E51))));refine ay7 S fun S=>azl S R 69 (eB x41.key) (jE (ho5)) (by simp only[azz]at hB ⊢; omega) fun ac u v53 X54 R S=>azh S fun S=>adr S 3 [] [.re 70 (.i (IntKind.i64.wrap ((k:Int)+1))) (.i (k+1:Nat))] (fun S=>?_) (hk:=⟨azj (by omega),trivial⟩);have S:=S.iH 1;obtain⟨R,Y55⟩:=R.bP S (aAr 1);refine azo S ig (fun S=>?_);exact eU _ _ ((k+1),v53) ⟨by omega,trivial,R.as (show [Sx.bR v53 (hP s11.key ka es.length ((es.map bn.key).take k)++eB x41.key)]=[Sx.bR v53 (hP s11.key ka es.length ((es.map bn.key).take (k+1)))] by rw[Y0 abr hx39]),S.sn⟩ (by show _-_<_-_; omega)
 have hkn:es.length≤k:=by have:=azR hc32; omega
 have hout:OwnB w.heap.size u v (hP s11.key ka es.length ((es.map bn.key).take k)):=R.own _ azJ;rw[aAh (show(es.map bn.key).length≤k by rw[aAQ]; exact hkn)]at hout;have hbf:=hB0 k;rw[aAh (show(es.map bn.key).length≤k by rw[aAQ]; exact hkn)]at hbf;have S1:=S.E.size;refine azk S (wK _ (hP s11.key ka es.length (es.map bn.key)) _ (uI hout) (by omega)) fun v9 u ho9 E57 S=>Sx.KJ S v9 (.i 0) (fun S=>?_);exact⟨_,rfl,qC (aY ho9 S1) (HD.bytes_eq (H:=⟨_,_,ss,_,_,es,ka⟩) hs0),S.E⟩
end
end Go.Proofs.YtodpgjjgaddkeaaGreatDoor
section
namespace Go.Sx
open Go.Proofs Go.Proofs.YtodpgjjgaddkeaaGreatDoor Go.RowKit Go.Rel
section
variable{P:Program}{B:Exit→Act→World→Prop}{ops:Array Oper}{Q:Exit→Act→World→Prop}{n:Nat}{w0 w:World}{a:Act}{os:List Oper}{l:List (Nat×Value)}{bl:List (Nat×List Value)}{vs:List fA}{z:Zt}
theorem alD(S:St w0 a w n l bl vs)(k1 k2:Nat){f:FuncId}{args:Array Value}{b1 b2:Nat}{A1 A2:List Value}(d:Option Nat){R:Ending→World→Prop}(hne:k1≠k2)(hk1:bl[k1]?=some (b1,A1))(hk2:bl[k2]?=some (b2,A2))(hc:Calls P f args w R)
  (next:∀e w',R e w'→∃v wm A1' A2',e = .returned v∧(Ext w0 wm∧Ch b1 w wm∧Bx wm b1 (List.toArray A1'))∧(Ext w0 w'∧Ch b2 wm w'∧Bx w' b2 (List.toArray A2'))∧∀a',St w0 a' w' n (yg l d v) ((bl.set k1 (b1,A1')).set k2 (b2,A2')) vs→wpList P ops Q (os.drop 1) a' w')
  (hx:callOf P os l=some (f,args,d):=by kernel_rfl) (hd:uY n d=true:=by rfl):wpList P ops Q os a w:=by
 cases os with
 | nil=>cases hx
 | cons o os =>
  unfold callOf at hx;simp only at hx;split at hx
  ·rename_i f' args' hg hav hev;simp only[azy,azA]at hx;obtain⟨rfl,rfl,rfl⟩:=hx;simp only[aAm]at hav;have hrun:(execOp a.eval o).run P w = .ok (.enter f' args') w:=lJ (Std.act a) (gZ (bZ S.s) o) (p:=[]) rfl hav.1 (by simpa using hav.2) hev;unfold wpList;rw[azv (by simp[Region.wanted,hg])];left;unfold Oper.wp;rw[hrun];simp only[Oper.upon];refine hc.mono fun e w' hR=>?_;obtain⟨v,wm,A1',A2',rfl,⟨hE1,hC1,hX1⟩,⟨hE2,hC2,hX2⟩,hn⟩:=next e w' hR;exact hn _ (((S.ch hC1 hk1 hX1 hE1).ch hC2 (by rw[List.getElem?_set_ne hne]; exact hk2) hX2 hE2).act (uF S.s hd v))
  cases hx
theorem alE(S:St w0 a w n l bl vs)(k:Nat){f:FuncId}{args:Array Value}{b:Nat}{A:List Value}(d:Option Nat){R:Ending→World→Prop}(hk:bl[k]?=some (b,A))(hc:Calls P f args w R)
  (next:∀e w',R e w'→∃v A',e = .returned v∧Ext w0 w'∧Ch b w w'∧Bx w' b (List.toArray A')∧∀a',St w0 a' w' n (yg l d v) (bl.set k (b,A')) vs→wpList P ops Q (os.drop 1) a' w')
  (hx:Fq P ops os l=some (f,args,d):=by kernel_rfl) (hd:uY n d=true:=by rfl):wpList P ops Q os a w:=by
 cases os with
 | nil=>cases hx
 | cons o os =>
  unfold Fq at hx;simp only at hx;split at hx
  ·rename_i p f' args' hp hav hev;split at hx
   ·rename_i hg;simp only[azy,azA]at hx;obtain⟨rfl,rfl,rfl⟩:=hx;simp only[aAm]at hav;have hrun:(execOp a.eval o).run P w = .ok (.enter f' args') w:=lJ (Std.act a) (gZ (bZ S.s) o) (p:=[]) rfl hav.1 (by simpa using hav.2) hev;unfold wpList;rw[azv ((rE (a:=a) hp (fun x _ i y _ hl=>bZ S.s i y hl)).2 hg)];left;unfold Oper.wp;rw[hrun];simp only[Oper.upon];refine hc.mono fun e w' hR=>?_;obtain⟨v,A',rfl,hE,hC,hX,hn⟩:=next e w' hR;exact hn _ ((S.ch hC hk hX hE).act (uF S.s hd v))
   cases hx
  cases hx
theorem Fv(S:St w0 a w n z.l bl vs)(k1 k2:Nat){f:FuncId}{args:Array Value}{b1 b2:Nat}{A1 A2:List Value}{R:Ending→World→Prop}(hne:k1≠k2)(hk1:bl[k1]?=some (b1,A1))(hk2:bl[k2]?=some (b2,A2))(hc:Calls P f args w R)
  (next:∀e w',R e w'→∃v wm A1' A2',e = .returned v∧(Ext w0 wm∧Ch b1 w wm∧Bx wm b1 (List.toArray A1'))∧(Ext w0 w'∧Ch b2 wm w'∧Bx w' b2 (List.toArray A2'))∧∀{a'},St w0 a' w' n (vG v (zN P n z)).l ((bl.set k1 (b1,A1')).set k2 (b2,A2')) vs→Gz P B (vG v (zN P n z)) a' w')
  (hx:callOf P (oD (zN P n z)) (zN P n z).l=some (f,args,lG (zN P n z)):=by kernel_rfl) (ho:(tq (zN P n z)&&uY n (lG (zN P n z)))=true:=by kernel_rfl):Gz P B z a w:=by
 simp only[azM]at ho;refine tu S fun S=>zop ho.1 (alD S k1 k2 _ hne hk1 hk2 hc (fun e w' hR=>?_) hx ho.2);obtain⟨v,wm,A1',A2',h1,h2,h4,h3⟩:=next e w' hR;exact⟨v,wm,A1',A2',h1,h2,h4,fun a' S'=>Io (m:=1) (l:=[]) ho.1 (h3 S')⟩
end
end Go.Sx
namespace Go.Proofs.YtodpgjjgaddkeaaGreatDoor
open Go.RowKit En
variable{α:Type}{K:Nat}
theorem alF{f:α→List Value}{k:Nat}{v:Value}{L:List α}{w:World}(h:aJ k f w v L):Sx.On (fun i=>i<w.heap.size) (fun W=>aJ k f W v L) w:=fun W hs hk=>by
 obtain⟨a,cap,e,hm,h⟩:=h;rcases h with h | ⟨b,o,rfl,hb,hl,hc⟩
 ·exact⟨a,cap,e,hm,.inl h⟩
 exact⟨_,cap,e,hm,.inr ⟨b,o,rfl,azY hb hs,hl,fun i hi j hj=>by rw[World.cell?_of_block (a:=⟨b,_,none⟩) (hk b hb hb)]; exact hc i hi j hj⟩⟩
theorem abt{f:FuncId}{args:Array Value}{w:World}{l m:List UInt8}{i most:Int}{j:Nat}(h:Calls Tryz.prog f args w (Dl w (Yc l i most)))(hr:Yc l i most=(m,j,0)):Calls Tryz.prog f args w fun e w'=>∃x,e = .returned (.tuple #[x,.i j,.i 0])∧OwnB w.heap.size w' x m∧Ext w w':=by
 rw[hr]at h; exact h
theorem abu{f:FuncId}{args:Array Value}{w:World}{l:List UInt8}{i:Int}{m j:Nat}(h:Calls Tryz.prog f args w fun e w'=>e = .returned (ame (xk l i))∧Ext w w')(hr:xk l i=(m,j,0)):Calls Tryz.prog f args w fun e w'=>e = .returned (.tuple #[.int .u64 (m:Int),.i j,.i 0])∧Ext w w':=by
 rw[hr]at h; exact h
theorem alG{base:Nat}{w:World}{v:Value}{l:List UInt8}(h:OwnB base w v l):Sx.aU base (fun W=>jr W v l) w:=Sx.kS (f:=fun n:UInt8=>[gK n]) (L:=l) (fun _=>rfl) h rfl (Oz l).symm
theorem MG{w0 w:World}{bi ba bf:Nat}{v:Value}{l m:List UInt8}{i j:Nat}(hE:Ext w0 w)(hxi:Bx w bi #[v])(hxa:Bx w ba #[.i i])(hxf:Bx w bf #[.bool true])(ha:w0.heap.size≤ba)(hf:w0.heap.size≤bf)(hab:ba≠bf)(hia:bi≠ba)(hif:bi≠bf)(hv:bJ w v l)(hl:l.length≤100000000000)(hr:Yc l (i:Nat) l.length=(m,j,0)) :
  Calls Tryz.prog 44 #[.q bi 0,.q ba 0,.q bf 0] w fun e w'=>∃x wm,e = .returned x∧jr w' x m∧(Ext w0 wm∧Ch ba w wm∧Bx wm ba #[.i j])∧(Ext w0 w'∧Ch bf wm w'∧Bx w' bf #[.bool true]):=by
 obtain⟨a,cap,rfl,hmx,-⟩:=id hv;refine azr Tryz.func44 Tryz.ntmps44 hE hxa ha (fun S=>?_);have S:=S.adopt (A:=[.bool true]) hxf hf (fun p hp=>by rcases azG.1 hp with rfl | hp; (exact hab); cases hp) (fun m hm=>by cases hm);have S:=S.view hxi.1 (hxi.range 0 1 rfl) (fun p hp=>by rcases azG.1 hp with rfl | hp; (exact hif.symm); rcases azG.1 hp with rfl | hp; (exact hia.symm); cases hp);have hba:=(S.bx 1).1;have hbf:=(S.bx 0).1;refine adr S 5 [] [.mem 2 0,.mem 1 0,.mem 2 0] fun S=>aze S (abt (SC _ l (i:Int) (l.length:Int) _ (hv.below Ext.rfl') hl (by omega)) hr) ?_;rintro e u ⟨x1,rfl,ho1,E3⟩;have hs1:=alG ho1;refine⟨_,rfl,E3,fun S=>?_⟩;refine adr S 13 [19,20] [.mem 0 0] fun S=>azb S 1 rfl (fun u C6 S=>?_);have Fs5:=(aH ((Ch.trans (Ch.refl ba w) (Ch.aZ E3))) C6);have Fs6:=(Sx.On.ch hs1 C6 (by omega));have hch:Ch ba w u:=Fs5;have Xg:=S.E;have hXm:Bx u ba (List.toArray [.i j]):=S.kG 1;obtain⟨wm,hwm⟩:∃x,x=u:=⟨_,rfl⟩;rw[←hwm]at hch Xg hXm;refine azb S 0 rfl (fun u C7 S=>?_);have Ld:=(Sx.On.ch Fs6 C7 (by omega));rw[←hwm]at C7;refine apB S x1 (fun S=>?_);exact⟨_,wm,rfl,(az8 (aBz Ld fun i h=>h)),⟨Xg,hch,hXm⟩,S.E,C7,S.kG 0⟩
theorem TS{w0 w:World}{bi ba bf:Nat}{v:Value}{l:List UInt8}{i j:Nat}(hE:Ext w0 w)(hxi:Bx w bi #[v])(hxa:Bx w ba #[.i i])(hxf:Bx w bf #[.bool true])(ha:w0.heap.size≤ba)(hf:w0.heap.size≤bf)(hab:ba≠bf)(hia:bi≠ba)(hif:bi≠bf)(hv:bJ w v l){m:Nat}(hr:xk l (i:Nat)=(m,j,0)) :
  Calls Tryz.prog 46 #[.q bi 0,.q ba 0,.q bf 0] w fun e w'=>∃wm,e = .returned (.int .u64 (m:Int))∧(Ext w0 wm∧Ch ba w wm∧Bx wm ba #[.i j])∧(Ext w0 w'∧Ch bf wm w'∧Bx w' bf #[.bool true]):=by
 obtain⟨a,cap,rfl,hmx,-⟩:=id hv;refine azr Tryz.func46 Tryz.ntmps46 hE hxa ha (fun S=>?_);have S:=S.adopt (A:=[.bool true]) hxf hf (fun p hp=>by rcases azG.1 hp with rfl | hp; (exact hab); cases hp) (fun m hm=>by cases hm);have S:=S.view hxi.1 (hxi.range 0 1 rfl) (fun p hp=>by rcases azG.1 hp with rfl | hp; (exact hif.symm); rcases azG.1 hp with rfl | hp; (exact hia.symm); cases hp);refine adr S 3 [] [.mem 2 0,.mem 1 0] fun S=>azd S (abu (vK _ l (i:Int) _ (hv.below Ext.rfl')) hr) fun u E3 S=>adr S 13 [17,18] [.mem 0 0] fun S=>azb S 1 rfl (fun u C6 S=>?_);have Fs5:=(aH ((Ch.trans (Ch.refl ba w) (Ch.aZ E3))) C6);have hch:Ch ba w u:=Fs5;have Xg:=S.E;have hXm:Bx u ba (List.toArray [.i j]):=S.kG 1;obtain⟨wm,hwm⟩:∃x,x=u:=⟨_,rfl⟩;rw[←hwm]at hch Xg hXm;refine azb S 0 rfl (fun u C7 S=>?_);rw[←hwm]at C7;refine apB S (.int .u64 (m:Int)) (fun S=>?_);exact⟨wm,rfl,⟨Xg,hch,hXm⟩,S.E,C7,S.kG 0⟩
end Go.Proofs.YtodpgjjgaddkeaaGreatDoor
end
