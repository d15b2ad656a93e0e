/- Package history: its operations on a history. Reading a -/
import Derived.Test.YtodpgjjgaddkeaaGreatDoorPk35
set_option maxHeartbeats 1600000
set_option maxRecDepth 100000
set_option linter.unusedVariables false
set_option linter.unusedSimpArgs false
namespace Go.Proofs.YtodpgjjgaddkeaaGreatDoor
section
open Go.RowKit
variable{α:Type}{K:Nat}
variable{b c:Nat}{H:HD}
set_option maxRecDepth 100000 in
set_option maxHeartbeats 3200000 in
theorem oJ{P:bF->Prop}(hA:ApC P){w0 w:World}{e:aP}(hP:P e.key)(hE:Ext w0 w)(hx:Bx w b H.cells.toArray)(hb:w0.heap.size<=b)(hcb:c<=b)(hok:H.Ok K)(hm:H.mem K c b w)(hg:dw w)(he:iy K w e)(hel:e.node.lim) :
  Calls Tryz.prog 13 #[.q b 0,e.v] w λr w'=>∃(H':HD) (code:Int),r = .returned (.i code)∧(H'.key,code)=H.key.app e.key∧H'.Ok K∧H'.mem K c b w'∧Ext w0 w'∧Ch b w w'∧Bx w' b H'.cells.toArray:=by
 skip;refine azN Tryz.func13 Tryz.ntmps13 hE hx hb λS=>azo S λu b2 E3 hb4 S=>Sx.lQ S (oI (S.bx 1)) λS=>azE S λS=>adr S 6 [] [.mem 1 2] λS=>azm S (((H.k:Int))==256) (λJL S=>?_) (λJL S=>?_)
 .refine apB S (.i 5) (λS=>?_);exact⟨H,5,I,by unfold HK.app; rw[azQ (show H.key.k=256 from by have:=JL; simp at this; exact(by omega:H.k=256))],hok,((az3 hm E3)),S.E,((Ch.trans (Ch.refl b w) (Ch.aT E3))),S.kK 1⟩
 refine azD S 4 [.mem 0 0] [] [(15,.q b 0),(16,e.v)] trivial (λu pW S=>?_);have hwu:Ext w u:=(K00 E3 pW);have hk:H.k≠256:=by have:=JL; simp at this; omega
 have hch:=((Ch.trans (Ch.refl b w) (Ch.aT (K00 E3 pW))));refine azt S 1 I (afm hA hP S.E (S.bx 1) hb hcb hok ((az3 hm (K00 E3 pW))) hk (dw.below hg hwu) (he.below hwu) hel) ?_;rintro e u ⟨H1,code,rfl,hkk,hok1,hm1,hE1,hC1,hX1⟩;refine⟨_,_,I,hE1,hC1,hX1,λS=>?_⟩;refine apB S (.i code) (λS=>?_);exact⟨H1,code,I,by unfold HK.app; rw[azP (show ¬H.key.k=256 from hk)]; exact hkk,hok1,hm1,S.E,Ch.trans hch hC1,S.kK 1⟩
theorem afn{w0 w:World}(hE:Ext w0 w)(hx:Bx w b H.cells.toArray)(hb:w0.heap.size<=b)(hcb:c<=b)(hok:H.Ok K)(hm:H.mem K c b w) :
  Calls Tryz.prog 14 #[.q b 0] w λr w'=>∃(H':HD) (code:Int),r = .returned (.i code)∧(H'.key,code)=H.key.undo∧H'.Ok K∧H'.mem K c b w'∧Ext w0 w'∧Ch b w w'∧Bx w' b H'.cells.toArray:=
 (abz hE hx hb (by have:=hok.le; omega)).mono λe w' h=>by
  rcases h with ⟨h0,rfl,h1,h2,h3⟩ | ⟨k',hk',rfl,h1,h2,h3⟩
  .exact⟨H,20,I,by unfold HK.undo; rw[azQ (show H.key.k=0 from h0)],hok,K09 hm h2,h1,h2,h3⟩
  .have e1:(HD.key ⟨H.sa,H.sc,H.ss,H.ea,H.ec,H.es,k'⟩,(0:Int))=H.key.undo:=by
    unfold HK.undo
    rw[azP (show ¬H.key.k=0 from by show ¬H.k=0; omega)]
    unfold HD.key
    simp only[hk',Nat.add_sub_cancel]
   have e2:=hok.k.undo
   rw[<-e1]at e2
   exact⟨⟨H.sa,H.sc,H.ss,H.ea,H.ec,H.es,k'⟩,0,I,e1,⟨e2,hok.s,hok.e⟩,K09 hm h2,h1,h2,h3⟩
theorem afo{w0 w:World}(hE:Ext w0 w)(hx:Bx w b H.cells.toArray)(hb:w0.heap.size<=b)(hcb:c<=b)(hok:H.Ok K)(hm:H.mem K c b w) :
  Calls Tryz.prog 15 #[.q b 0] w λr w'=>∃(H':HD) (code:Int),r = .returned (.i code)∧(H'.key,code)=H.key.redo∧H'.Ok K∧H'.mem K c b w'∧Ext w0 w'∧Ch b w w'∧Bx w' b H'.cells.toArray:=
 (abA hE hx hb (by have:=hok.le; omega)).mono λe w' h=>by
  have hl:H.key.es.length=H.es.length:=aA5 ..
  rcases h with ⟨h0,rfl,h1,h2,h3⟩ | ⟨h0,rfl,h1,h2,h3⟩
  .exact⟨H,20,I,by unfold HK.redo; rw[azQ (show H.key.k=H.key.es.length from by rw[hl]; exact h0)],hok,K09 hm h2,h1,h2,h3⟩
  .have e1:(HD.key ⟨H.sa,H.sc,H.ss,H.ea,H.ec,H.es,H.k+1⟩,(0:Int))=H.key.redo:=by
    unfold HK.redo
    rw[azP (show ¬H.key.k=H.key.es.length from by rw[hl]; exact h0)]; rfl
   have e2:=hok.k.redo
   rw[<-e1]at e2
   exact⟨⟨H.sa,H.sc,H.ss,H.ea,H.ec,H.es,H.k+1⟩,0,I,e1,⟨e2,hok.s,hok.e⟩,K09 hm h2,h1,h2,h3⟩
theorem Gi{w:World}(hx:Bx w b H.cells.toArray)(hok:H.Ok K)(hm:H.mem K c b w) :
  Calls Tryz.prog 17 #[.q b 0] w λr w'=>∃m:aH,r = .returned m.v∧fA w.heap.size m.s m.ns w'∧dL K w' m∧m.key=H.key.now∧(∀n∈m.ns,n.vT K)∧Ext w w':=
 have hR:=aAj hm
 have hq:=aAl hok.lt
 (XG hx hR.1.1 hok.lt (hR.1.2 _ hq) (λn hn=>(hok.s _ hq n hn).2) (by have:=Uw (hok.val hq); omega)).mono λe w' ⟨m,h1,h2,h3,h4,h5,h6,h7⟩=>by
  have hf:∀n∈m.ns,n.vT K:=λn hn=>⟨fits_all h3 (λn hn=>(hok.s _ hq n hn).1) n hn,Aw h3 (λn hn=>(hok.s _ hq n hn).2) n hn⟩
  exact⟨m,h1,h2,⟨h4▸(hR.1.2 _ hq).1,h5▸(hR.1.2 _ hq).2.1,fA.ok h2 λn hn=>(hf n hn).1⟩,by rw[K08 hok.lt]; unfold aH.key; rw[h4,h5,h6]; exact az0 _ (Au h3),hf,h7⟩
end
section
open En
variable{K:Nat}
theorem PX{c:Nat}:∀{l:List bF},(∀e∈l,(eB e).length<=c)->(l.flatMap eB).length<=l.length*c
 | [],_=>azZ _
 | x::r,h=>by
  have h1:=h x az5
  have h2:=PX (l:=r) λe he=>h e (aA4 _ he)
  rw[aA0,azU,aAx,Nat.succ_mul]
  omega
theorem HD.Ok.ai2{H:HD}(h:H.Ok K):∀e∈H.key.es,(eB e).length<=60000010:=λe he=>by
 obtain⟨x,hx,rfl⟩:=aAi.1 he;have h1:=DZ (e:=x) (h.k.hs.enc he).2;have h2:=Jc (fP.app (kD x.key));unfold eB;omega
theorem HD.Ok.ai3{H:HD}(h:H.Ok K){s:aH}(hs:s∈H.ss):(fP.app (dV s.key)).length<=60000000:=XL (h.val hs)
def hP(s:aX)(k n:Nat)(l:List bF):List UInt8:=fV (fP.app (dV s))++(dW 10 k++(dW 10 n++l.flatMap eB))
variable{s:aX}{k j:Nat}{es:List bF}
theorem ai4(s:aX)(k:Nat)(es:List bF):hB s k es=hP s k es.length es:=rfl
theorem afp(h1:(fP.app (dV s)).length<=60000000)(h2:∀e∈es,(eB e).length<=60000010)(h3:es.length<=256):(hB s k es).length<=20000000000:=by
 have a1:=Jc (fP.app (dV s));have a2:=iG 10 k;have a3:=iG 10 es.length;have a4:=PX h2;have a5:es.length*60000010<=256*60000010:=aBj _ h3;unfold hB;simp only[azU];omega
theorem afq(h1:(fP.app (dV s)).length<=60000000):Yy (hB s k es) (0:Nat) (hB s k es).length=(fP.app (dV s),(fV (fP.app (dV s))).length,0):=by
 have:=Y4 [] (dW 10 k++(dW 10 es.length++es.flatMap eB)) (fP.app (dV s)) (hB s k es).length Z (by unfold hB fV; simp only[azU]; omega);simp only[aAR,aA3,aAK]at this;exact this
theorem ava(hk:k<=256):yg (hB s k es) ((fV (fP.app (dV s))).length:Nat)=(k,(fV (fP.app (dV s))).length+(dW 10 k).length,0):=
 Y3 (fV (fP.app (dV s))) (dW 10 es.length++es.flatMap eB) k Z
theorem avb(hk:es.length<=256):yg (hB s k es) ((fV (fP.app (dV s))).length+(dW 10 k).length:Nat)=(es.length,(hP s k es.length []).length,0):=by
 have:=Y3 (fV (fP.app (dV s))++dW 10 k) (es.flatMap eB) es.length Z;rw[aAb,azU]at this;unfold hP hB;rw[this];simp only[azU,List.flatMap_nil,aAW,aBR]
theorem avc{e:bF}(he:es[j]?=some e)(h2:(eB e).length<=60000010):Yy (hB s k es) ((hP s k es.length (es.take j)).length:Nat) (hB s k es).length=(fP.app (kD e),(hP s k es.length (es.take (j+1))).length,0):=by
 obtain⟨hj,rfl⟩:=List.getElem?_eq_some_iff.1 he;have e0:es=es.take j++(es[j]::es.drop (j+1)):=by rw[List.getElem_cons_drop,aBQ]
 have e1:hB s k es=hP s k es.length (es.take j)++(fV (fP.app (kD es[j]))++(es.drop (j+1)).flatMap eB):=by
  rw[ai4];conv=>lhs; rw[hP]
  rw[hP];simp only[aAb];congr 3;conv=>lhs; rw[e0]
  rw[aBx,aA0]; rfl
 have h3:(fP.app (kD es[j])).length<=(eB es[j]).length:=by unfold eB fV; rw[azU]; omega
 have hl:((fP.app (kD es[j])).length:Int)<=((hB s k es).length:Int):=by
  rw[e1]; unfold fV; simp only[azU]; omega
 have:=Y4 (hP s k es.length (es.take j)) ((es.drop (j+1)).flatMap eB) (fP.app (kD es[j])) (hB s k es).length Z hl;rw[<-e1]at this;rw[this];have e4:(hP s k es.length (es.take (j+1))).length=(hP s k es.length (es.take j)).length+(fV (fP.app (kD es[j]))).length:=by
  rw[aAU hj];unfold hP;simp only[aBx,aA0,List.flatMap_nil,aAW,azU];unfold eB;omega
 rw[e4]
theorem HK.abI{ss:List aX}{es:List bF}(h:Hs ss es){j:Nat}{e:bF}(he:es[j]?=some e):HK.put ⟨ss.take (j+1),es.take j,j⟩ e=(⟨ss.take (j+2),es.take (j+1),j+1⟩,0):=by
 obtain⟨a,b,h1,h2,h3⟩:=h.step j e he;obtain⟨hj,rfl⟩:=List.getElem?_eq_some_iff.1 he;have hl:=h.len;have hn:HK.now ⟨ss.take (j+1),es.take j,j⟩=a:=by
  unfold HK.now;simp only;rw[List.getElem?_take_of_lt Z,h1]; rfl
 unfold HK.put;rw[hn,h3,azQ I];simp only[azW,HK.mk.injEq,and_true];obtain⟨hb,rfl⟩:=List.getElem?_eq_some_iff.1 h2;refine⟨?_,?_⟩
 .rw[List.take_take,Nat.min_self,<-aAU hb]
 rw[List.take_take,Nat.min_self,<-aAU hj]
def HK.bytes(h:HK):List UInt8:=fP.app (hB ((h.ss[0]?).getD .zero) h.k h.es)
theorem HD.bytes_eq{H:HD}{s:aH}(hs:H.ss[0]?=some s):fP.app (hP s.key H.k H.es.length (H.es.map aP.key))=H.key.bytes:=by
 unfold HK.bytes HD.key;simp only[List.getElem?_map,hs,aAF,Option.getD_some,ai4,aA5]
theorem Zn{n:Nat}{es:List aP}{x:aP}(hj:j<es.length)(hx:es[j]=x):hP s k n ((es.map aP.key).take (j+1))=hP s k n ((es.map aP.key).take j)++eB x.key:=by
 rw[aAU (by simpa using hj),List.getElem_map,hx];unfold hP;simp only[aBx,aA0,List.flatMap_nil,aAW,aAb]
theorem HD.Ok.aqd{H:HD}(h:H.Ok K){s:aX}(h1:(fP.app (dV s)).length<=60000000)(k n j:Nat):(hP s k n ((H.es.map aP.key).take j)).length<=20000000000:=by
 have a1:=Jc (fP.app (dV s));have a2:=iG 10 k;have a3:=iG 10 n;have a4:=PX (l:=(H.es.map aP.key).take j) λe he=>h.ai2 e (aBG he);have a6:((H.es.map aP.key).take j).length<=256:=by have:=h.le; rw[aAN,aA5]; omega
 have a5:((H.es.map aP.key).take j).length*60000010<=256*60000010:=aBj _ a6;unfold hP;simp only[azU];omega
end
section
open Go.RowKit En
variable{α:Type}{K:Nat}
theorem Zo{n:Nat}(h:n<=1000000):Value.int .u64 (IntKind.u64.wrap (n:Int)) = .int .u64 (n:Int):=wrap_u64 Z
set_option maxRecDepth 100000 in
set_option maxHeartbeats 3200000 in
theorem Nh{w:World}{b c:Nat}{H:HD}(hx:Bx w b H.cells.toArray)(hok:H.Ok K)(hm:H.mem K c b w)(hg:dw w) :
  Calls Tryz.prog 10 #[.q b 0] w λr w'=>∃v,r = .returned (.tuple #[v,.i 0])∧OwnB w.heap.size w' v H.key.bytes∧Ext w w':=by
 obtain⟨sa,sc,ss,ea,ec,es,ka⟩:=H;have hW:=aAj hm;have hlen:ss.length=es.length+1:=hok.len;have hle:ka<=es.length∧es.length<=256:=hok.le;have hpos:0<ss.length:=Z
 have hmax:es.length<=9223372036854775807:=Z
 refine azp Tryz.func10 Tryz.ntmps10 (λS=>?_);have S:=S.view0 hx.1 (hx.range 0 4 I);refine Sx.lQ S (oI hx) λS=>azE S (λS=>?_);have afr:0<ss.length:=hpos;obtain⟨b5,o6,rfl,s11,hx9,Ho,hr8⟩:=aAo hW.1.1 (λ_=>I) (0) afr;have S:=S.view0 Ho hr8;have hs0:ss[0]?=some s11:=by rw[List.getElem?_eq_getElem hpos,hx9]
 have hsv:=hok.val (s:=s11) (hx9▸aAl afr);have hsl:=hok.ai3 (s:=s11) (hx9▸aAl afr);refine adr S 7 [] [.mem 1 0,.idx 0 ss.length,.mem 0 0] (hk:=⟨afr,G⟩) λS=>azz S (vK ((hW.1.2 _ (hx9▸aAl afr)).below S.E) (dw.below hg S.E)) ?_;rintro e u ⟨v1,er1,rfl,hsc,Dj⟩;obtain⟨rfl,ho1⟩:=Ui.good hsc hsv;refine⟨_,I,Dj,λS=>?_⟩;refine azE S (λS=>?_);have S0:=S.E.size;refine azH S (nS _ _ _ (uU ho1) Z) (λv2 u ho2 yZ S=>?_);have R:=kM (aAy S) ho2 (λp hp=>by cases hp) S0;have hB0:=hok.aqd hsl ka es.length;have hB:(fV (fP.app (dV s11.key))++dW 10 ka++dW 10 es.length).length<=20000000000:=by have:=hB0 0; simpa[hP]using this
 have hB1:=hB;simp only[azU]at hB1;refine adr S 8 [] [.mem 1 2,.re 35 (.int .u64 (IntKind.u64.wrap (ka:Int))) (.int .u64 (ka:Int))] (hk:=⟨(Zo Z),G⟩) λS=>azH S (fO ka _ Z) (λu1 u hu1 KU S=>?_);obtain⟨R,Y20⟩:=R.bQ S (aAg KU);refine azw S λS=>azK S R 37 (dW 10 ka) (jH (hu1)) (by simp only[azU]at hB |-; omega) λac u v21 X22 R S=>azF S (λS=>?_);have S:=S.view0 hx.1 (hx.range 0 4 I);refine adr S 9 [] [.mem 0 1,.re 45 (.int .u64 (IntKind.u64.wrap (es.length:Int))) (.int .u64 (es.length:Int))] (hk:=⟨(Zo Z),G⟩) λS=>azH S (fO es.length _ Z) (λu2 u hu2 yO S=>?_);obtain⟨R,Y25⟩:=R.bQ S (aAg yO);refine azw S λS=>azK S R 47 (dW 10 es.length) (jH (hu2)) (by simp only[azU]at hB |-; omega) λac u v26 X27 R S=>azF S (λS=>?_);have S:=S.view0 hx.1 (hx.range 0 4 I);refine adr S 8 [] [.mem 0 1] λS=>azI S (ι:=Nat×Value) (λp a' w'=>p.1<=es.length∧(True)∧Sx.Rw w w' [] [⟨5,1,p.2,(hP s11.key ka es.length ((es.map aP.key).take p.1)).length,(hP s11.key ka es.length ((es.map aP.key).take p.1)).map fZ⟩]∧Sx.St w a' w' 73 [(0,.q b 0),(2,.sn),(3,.i 0),(4,v1),(5,.i 0),(6,p.2),(52,.slice ea es.length ec),(53,.i es.length),(54,.i p.1)] [] []) (λp=>es.length-p.1) (0,v26) (λS=>⟨azZ _,G,R.as (show [Sx.bR v26 (fV (fP.app (dV s11.key))++(dW 10 ka)++(dW 10 es.length))]=[Sx.bR v26 (hP s11.key ka es.length ((es.map aP.key).take 0))] by simp[hP]),S.sn⟩) ?_;rintro⟨k,v⟩ ac u gQ eu hI;try dsimp only at hI
 obtain⟨hk,hR,R,S⟩:=hI;refine azJ S λS=>azm S (decide ((k:Int)<(es.length:Int))) (λhc32 S=>?_) (λhc32 S=>?_)
 .have abJ:k<es.length:=by have:=az9 hc32; omega
  obtain⟨b35,o36,rfl,x41,hx39,ajM,avd⟩:=aAo hW.2.1 (λ_=>I) (k) abJ;have S:=S.view0 ajM avd;refine adr S 2 [] [.idx k es.length,.mem 0 0] (hk:=⟨abJ,G⟩) λS=>azs S (Sx.L [.i 0,.i 0,.i 0,.i 0,.i 0,.i 0,.i 0]++Sx.za++Sx.L [.sn,.i 0,.u 0,.i 0,.z,.z,.sn,.i 0,.sn,.i 0,.i 0,.i 0,.i 0,.sn,.i 0,.sn,.i 0,.i 0,.sn,.i 0,.u 0,.u 0,.u 0,.u 0]) λu b43 Yq Vk S=>azx S 0 (off:=0) (cs:=x41.cells) I (λu UY S=>?_);have hem:=hok.k.hs.enc (e:=x41.key) (aAi.2 ⟨_,(hx39▸aAl abJ),I⟩);have hel:=DZ (e:=x41) hem.2;refine adr S 1 [] [.mem 0 0] λS=>azz S (xE ((hW.2.2 _ (hx39▸aAl abJ)).below S.E) (dw.below hg S.E)) ?_;rintro e u ⟨v4,er4,rfl,hec,Rh⟩;obtain⟨rfl,ho4⟩:=Um.good hec hem.1 hem.2;refine⟨_,I,Rh,λS=>?_⟩;refine azE S λS=>azH S (nS _ _ _ (uU ho4) Z) (λv5 u ho5 E51 S=>?_);have hB:=hB0 (k+1);rw[Zn abJ hx39]at hB;obtain⟨R,Y52⟩:=R.bQ S (aAc (aAX Yq Vk) (aAc (Sx.Stp.Ov UY) (aAc (aAg Rh) (aAg E51))));refine azw S λS=>azK S R 69 (eB x41.key) (jH (ho5)) (by simp only[azU]at hB |-; omega) λac u v53 X54 R S=>azF S λS=>adr S 3 [] [.re 70 (.i (IntKind.i64.wrap ((k:Int)+1))) (.i (k+1:Nat))] (λS=>?_) (hk:=⟨azA Z,G⟩);have S:=S.gW 1;obtain⟨R,Y55⟩:=R.bQ S (aAO 1);refine azG S gQ (λS=>?_);exact eu _ _ ((k+1),v53) ⟨Z,G,R.as (show [Sx.bR v53 (hP s11.key ka es.length ((es.map aP.key).take k)++eB x41.key)]=[Sx.bR v53 (hP s11.key ka es.length ((es.map aP.key).take (k+1)))] by rw[Zn abJ hx39]),S.sn⟩ (by show _-_<_-_; omega)
 have hkn:es.length<=k:=by have:=aAd hc32; omega
 have hout:OwnB w.heap.size u v (hP s11.key ka es.length ((es.map aP.key).take k)):=R.own _ az5;rw[aAv (show(es.map aP.key).length<=k by rw[aA5]; exact hkn)]at hout;have hbf:=hB0 k;rw[aAv (show(es.map aP.key).length<=k by rw[aA5]; exact hkn)]at hbf;have S1:=S.E.size;refine azH S (xq _ (hP s11.key ka es.length (es.map aP.key)) _ (uU hout) Z) λv9 u ho9 E57 S=>Sx.Qo S v9 (.i 0) (λS=>?_);exact⟨_,I,qL (bC ho9 S1) (HD.bytes_eq (H:=⟨_,_,ss,_,_,es,ka⟩) hs0),S.E⟩
end
end Go.Proofs.YtodpgjjgaddkeaaGreatDoor
section
namespace Go.Sx
open Go.Proofs Go.Proofs.YtodpgjjgaddkeaaGreatDoor Go.RowKit Go.Rel
section
variable{P:Program}{B:Exit->Act->World->Prop}{ops:Array Oper}{Q:Exit->Act->World->Prop}{n:Nat}{w0 w:World}{a:Act}{os:List Oper}{l:List (Nat×Value)}{bl:List (Nat×List Value)}{vs:List fD}{z:Zt}
variable{f:FuncId}{args:Array Value}{R:Ending->World->Prop}{b1 b2:Nat}{A1 A2:List Value}
theorem alZ(S:St w0 a w n l bl vs)(k1 k2:Nat)(d:Option Nat)(hne:k1≠k2)(hk1:bl[k1]?=some (b1,A1))(hk2:bl[k2]?=some (b2,A2))(hc:Calls P f args w R)
  (next:∀e w',R e w'->∃v wm A1' A2',e = .returned v∧(Ext w0 wm∧Ch b1 w wm∧Bx wm b1 (List.toArray A1'))∧(Ext w0 w'∧Ch b2 wm w'∧Bx w' b2 (List.toArray A2'))∧∀a',St w0 a' w' n (yQ l d v) ((bl.set k1 (b1,A1')).set k2 (b2,A2')) vs->wpList P ops Q (os.drop 1) a' w')
  (hx:callOf P os l=some (f,args,d):=by kernel_rfl) (hd:vI n d=true:=by rfl):wpList P ops Q os a w:=by
 cases os with
 | nil=>cases hx
 | cons o os =>
  unfold callOf at hx;simp only at hx;split at hx
  .rename_i f' args' hg hav hev;simp only[azT,azW]at hx;obtain⟨rfl,rfl,rfl⟩:=hx;simp only[aAI]at hav;have hrun:(execOp a.eval o).run P w = .ok (.enter f' args') w:=lS (Std.act a) (iq (bZ S.s) o) (p:=[]) I hav.1 (by simpa using hav.2) hev;unfold wpList;rw[azQ (by simp[Region.wanted,hg])];left;unfold Oper.wp;rw[hrun];simp only[Oper.upon];refine hc.mono λe w' hR=>?_;obtain⟨v,wm,A1',A2',rfl,⟨hE1,hC1,hX1⟩,⟨hE2,hC2,hX2⟩,hn⟩:=next e w' hR;exact hn _ (((S.ch hC1 hk1 hX1 hE1).ch hC2 (by rw[List.getElem?_set_ne hne]; exact hk2) hX2 hE2).act (uP S.s hd v))
  cases hx
theorem al0(S:St w0 a w n l bl vs)(k:Nat){b:Nat}{A:List Value}(d:Option Nat)(hk:bl[k]?=some (b,A))(hc:Calls P f args w R)
  (next:∀e w',R e w'->∃v A',e = .returned v∧Ext w0 w'∧Ch b w w'∧Bx w' b (List.toArray A')∧∀a',St w0 a' w' n (yQ l d v) (bl.set k (b,A')) vs->wpList P ops Q (os.drop 1) a' w')
  (hx:Gj P ops os l=some (f,args,d):=by kernel_rfl) (hd:vI n d=true:=by rfl):wpList P ops Q os a w:=by
 cases os with
 | nil=>cases hx
 | cons o os =>
  unfold Gj at hx;simp only at hx;split at hx
  .rename_i p f' args' hp hav hev;split at hx
   .rename_i hg;simp only[azT,azW]at hx;obtain⟨rfl,rfl,rfl⟩:=hx;simp only[aAI]at hav;have hrun:(execOp a.eval o).run P w = .ok (.enter f' args') w:=lS (Std.act a) (iq (bZ S.s) o) (p:=[]) I hav.1 (by simpa using hav.2) hev;unfold wpList;rw[azQ ((rQ (a:=a) hp (λx _ i y _ hl=>bZ S.s i y hl)).2 hg)];left;unfold Oper.wp;rw[hrun];simp only[Oper.upon];refine hc.mono λe w' hR=>?_;obtain⟨v,A',rfl,hE,hC,hX,hn⟩:=next e w' hR;exact hn _ ((S.ch hC hk hX hE).act (uP S.s hd v))
   cases hx
  cases hx
theorem Gl(S:St w0 a w n z.l bl vs)(k1 k2:Nat)(hne:k1≠k2)(hk1:bl[k1]?=some (b1,A1))(hk2:bl[k2]?=some (b2,A2))(hc:Calls P f args w R)
  (next:∀e w',R e w'->∃v wm A1' A2',e = .returned v∧(Ext w0 wm∧Ch b1 w wm∧Bx wm b1 (List.toArray A1'))∧(Ext w0 w'∧Ch b2 wm w'∧Bx w' b2 (List.toArray A2'))∧∀{a'},St w0 a' w' n (vV v (zN P n z)).l ((bl.set k1 (b1,A1')).set k2 (b2,A2')) vs->Gz P B (vV v (zN P n z)) a' w')
  (hx:callOf P (oG (zN P n z)) (zN P n z).l=some (f,args,lK (zN P n z)):=by kernel_rfl) (ho:(tV (zN P n z)&&vI n (lK (zN P n z)))=true:=by kernel_rfl):Gz P B z a w:=by
 simp only[az7]at ho;refine tX S λS=>zop ho.1 (alZ S k1 k2 _ hne hk1 hk2 hc (λe w' hR=>?_) hx ho.2);obtain⟨v,wm,A1',A2',h1,h2,h4,h3⟩:=next e w' hR;exact⟨v,wm,A1',A2',h1,h2,h4,λa' S'=>IX (m:=1) (l:=[]) ho.1 (h3 S')⟩
end
end Go.Sx
namespace Go.Proofs.YtodpgjjgaddkeaaGreatDoor
open Go.RowKit En
variable{α:Type}{K:Nat}
variable{v:Value}{j bi ba bf:Nat}{f:FuncId}{args:Array Value}{m:List UInt8}{i:Int}
theorem al1{f:α->List Value}{k:Nat}{L:List α}{w:World}(h:aJ k f w v L):Sx.On (λi=>i<w.heap.size) (λW=>aJ k f W v L) w:=λW hs hk=>by
 obtain⟨a,cap,e,hm,h⟩:=h;rcases h with h | ⟨b,o,rfl,hb,hl,hc⟩
 .exact⟨a,cap,e,hm,.inl h⟩
 exact⟨_,cap,e,hm,.inr ⟨b,o,I,aAk hb hs,hl,λi hi j hj=>by rw[World.cell?_of_block (a:=⟨b,_,none⟩) (hk b hb hb)]; exact hc i hi j hj⟩⟩
theorem abK{w:World}{l:List UInt8}{most:Int}(h:Calls Tryz.prog f args w (DX w (Yy l i most)))(hr:Yy l i most=(m,j,0)):Calls Tryz.prog f args w λe w'=>∃x,e = .returned (.tuple #[x,.i j,.i 0])∧OwnB w.heap.size w' x m∧Ext w w':=by
 rw[hr]at h; exact h
theorem abL{w:World}{l:List UInt8}{m:Nat}(h:Calls Tryz.prog f args w λe w'=>e = .returned (ani (yg l i))∧Ext w w')(hr:yg l i=(m,j,0)):Calls Tryz.prog f args w λe w'=>e = .returned (.tuple #[.int .u64 (m:Int),.i j,.i 0])∧Ext w w':=by
 rw[hr]at h; exact h
theorem al2{base:Nat}{w:World}{l:List UInt8}(h:OwnB base w v l):Sx.aY base (λW=>jv W v l) w:=Sx.kX (f:=λn:UInt8=>[fZ n]) (L:=l) (λ_=>I) h I (OJ l).symm
theorem Nj{w0 w:World}{l:List UInt8}{i:Nat}(hE:Ext w0 w)(hxi:Bx w bi #[v])(hxa:Bx w ba #[.i i])(hxf:Bx w bf #[.bool true])(ha:w0.heap.size<=ba)(hf:w0.heap.size<=bf)(hab:ba≠bf)(hia:bi≠ba)(hif:bi≠bf)(hv:bK w v l)(hl:l.length<=100000000000)(hr:Yy l (i:Nat) l.length=(m,j,0)) :
  Calls Tryz.prog 44 #[.q bi 0,.q ba 0,.q bf 0] w λe w'=>∃x wm,e = .returned x∧jv w' x m∧(Ext w0 wm∧Ch ba w wm∧Bx wm ba #[.i j])∧(Ext w0 w'∧Ch bf wm w'∧Bx w' bf #[.bool true]):=by
 obtain⟨a,cap,rfl,hmx,-⟩:=id hv;refine azN Tryz.func44 Tryz.ntmps44 hE hxa ha (λS=>?_);have S:=S.adopt (A:=[.bool true]) hxf hf (λp hp=>by rcases az2.1 hp with rfl | hp; (exact hab); cases hp) (λm hm=>by cases hm);have S:=S.view hxi.1 (hxi.range 0 1 I) (λp hp=>by rcases az2.1 hp with rfl | hp; (exact hif.symm); rcases az2.1 hp with rfl | hp; (exact hia.symm); cases hp);have hba:=(S.bx 1).1;have hbf:=(S.bx 0).1;refine adr S 5 [] [.mem 2 0,.mem 1 0,.mem 2 0] λS=>azz S (abK (TA _ l (i:Int) (l.length:Int) _ (hv.below K01) hl Z) hr) ?_;rintro e u ⟨x1,rfl,ho1,E3⟩;have hs1:=al2 ho1;refine⟨_,I,E3,λS=>?_⟩;refine adr S 13 [19,20] [.mem 0 0] λS=>azv S 1 I (λu C6 S=>?_);have Fs5:=(aI ((Ch.trans (Ch.refl ba w) (Ch.aT E3))) C6);have Fs6:=(Sx.On.ch hs1 C6 Z);have hch:Ch ba w u:=Fs5;have XD:=S.E;have hXm:Bx u ba (List.toArray [.i j]):=S.kK 1;obtain⟨wm,hwm⟩:∃x,x=u:=⟨_,I⟩;rw[<-hwm]at hch XD hXm;refine azv S 0 I (λu C7 S=>?_);have LQ:=(Sx.On.ch Fs6 C7 Z);rw[<-hwm]at C7;refine apB S x1 (λS=>?_);exact⟨_,wm,I,(aAj (aBu LQ λi h=>h)),⟨XD,hch,hXm⟩,S.E,C7,S.kK 0⟩
theorem Uy{w0 w:World}{l:List UInt8}{i:Nat}(hE:Ext w0 w)(hxi:Bx w bi #[v])(hxa:Bx w ba #[.i i])(hxf:Bx w bf #[.bool true])(ha:w0.heap.size<=ba)(hf:w0.heap.size<=bf)(hab:ba≠bf)(hia:bi≠ba)(hif:bi≠bf)(hv:bK w v l){m:Nat}(hr:yg l (i:Nat)=(m,j,0)) :
  Calls Tryz.prog 46 #[.q bi 0,.q ba 0,.q bf 0] w λe w'=>∃wm,e = .returned (.int .u64 (m:Int))∧(Ext w0 wm∧Ch ba w wm∧Bx wm ba #[.i j])∧(Ext w0 w'∧Ch bf wm w'∧Bx w' bf #[.bool true]):=by
 obtain⟨a,cap,rfl,hmx,-⟩:=id hv;refine azN Tryz.func46 Tryz.ntmps46 hE hxa ha (λS=>?_);have S:=S.adopt (A:=[.bool true]) hxf hf (λp hp=>by rcases az2.1 hp with rfl | hp; (exact hab); cases hp) (λm hm=>by cases hm);have S:=S.view hxi.1 (hxi.range 0 1 I) (λp hp=>by rcases az2.1 hp with rfl | hp; (exact hif.symm); rcases az2.1 hp with rfl | hp; (exact hia.symm); cases hp);refine adr S 3 [] [.mem 2 0,.mem 1 0] λS=>azB S (abL (xk _ l (i:Int) _ (hv.below K01)) hr) λu E3 S=>adr S 13 [17,18] [.mem 0 0] λS=>azv S 1 I (λu C6 S=>?_);have Fs5:=(aI ((Ch.trans (Ch.refl ba w) (Ch.aT E3))) C6);have hch:Ch ba w u:=Fs5;have XD:=S.E;have hXm:Bx u ba (List.toArray [.i j]):=S.kK 1;obtain⟨wm,hwm⟩:∃x,x=u:=⟨_,I⟩;rw[<-hwm]at hch XD hXm;refine azv S 0 I (λu C7 S=>?_);rw[<-hwm]at C7;refine apB S (.int .u64 (m:Int)) (λS=>?_);exact⟨wm,I,⟨XD,hch,hXm⟩,S.E,C7,S.kK 0⟩
