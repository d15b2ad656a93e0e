/- Package history: loading what -/
import Derived.Test.YtodpgjjgaddkeaaGreatDoorPk20
import Derived.Test.YtodpgjjgaddkeaaGreatDoorRows
set_option maxRecDepth 100000
set_option maxHeartbeats 9999999
open Go renaming World->Á,Value->À,Calls->Ä,TypeId->á
open Go.Proofs.Tryz
set_option linter.unusedVariables false
set_option linter.unusedSimpArgs false
namespace Go.Proofs.Pv
open _root_.Go.Proofs.Tryz
section
open Go.RowKit En Go.Sx
variable{α:Type}{K:Nat}
abbrev K12{H:HD}{c c' b:Nat}{w:Á}(h:H.mem K c b w)(hc:c'<=c):H.mem K c' b w:=ſ h λi hi=>⟨ï hc hi.1,hi.2⟩
abbrev ahU{l m:List UInt8}{k:Int}(h:Ver (gI.app l) m k):k=0∧m=l:=by
 rcases h with ⟨-,h⟩ | ⟨-,-,h⟩ | ⟨h,h2⟩
 .rw[oG]at h; omega
 .exact absurd I (h l)
 exact⟨h,(Dc h2).symm⟩
abbrev ae4{f:FuncId}{args:Array À}{w:Á}{v v':À}(h:Ä prog f args w λe w'=>e = .R v∧w=w')(hv:v=v'):Ä prog f args w λe w'=>e = .R v'∧w=w':=hv▸h
abbrev Pz{w:Á}{s:aA}(h:bM K w s)(hg:bZ w)(hlim:∀n∈s.ns,n.lim)(hv:s.key.valid=true) :
  Ä prog 25 #[s.v] w λe w'=>∃(b:Nat) (H:HD),e = .R (.tuple #[.q b 0,.i 0])∧w.heap.size<=b∧Bx w' b H.cells.toArray∧H.mem K w.heap.size b w'∧(H.Ok K∧H.key=⟨[s.key],[],0⟩)∧Ext w w':=
 (TG h hg hlim).mono λe w' h=>by
  rcases h with ⟨h1,-⟩ | ⟨-,h⟩
  .rw[hv]at h1; cases h1
  .exact h
abbrev alj{j:Nat}(h:j<=1000000):Value.int .u64 (IntKind.u64.wrap ((j:Int)+1)) = .int .u64 ((j+1:Nat):Int):=wrap_u64 (n:=j+1) Z
abbrev alk{n:Nat}(h:n<=1000000):Value.i (IntKind.i64.wrap (n:Int)) = .i n:=by
 have:IntKind.i64.wrap (n:Int)=(n:Int):=by rw[Ř]; omega
 rw[this]
def HK.upto(h:HK)(j:Nat):HK:=⟨h.ss.take (j+1),h.es.take j,j⟩
abbrev HK.Ok.ae5{h:HK}(o:h.Ok){j:Nat}{e:bH}(he:h.es[j]?=some e):(h.upto j).app e=(h.upto (j+1),0):=by
 have:=(List.getElem?_eq_some_iff.1 he).1;have:=o.most;unfold HK.app;rw[É (show ¬(h.upto j).k=256 from by show ¬j=256; omega)];exact HK.abf o.hs he
abbrev HK.Ok.upto_all{h:HK}(o:h.Ok):(⟨(h.upto h.es.length).ss,(h.upto h.es.length).es,h.k⟩:HK)=h:=by
 unfold HK.upto;simp only;rw[Ĝ (by rw[o.hs.len]; exact Ó _),Ĝ (Ó _)]
abbrev HK.Ok.abj{h:HK}(o:h.Ok):(⟨[(h.ss[0]?).getD .zero],[],0⟩:HK)=h.upto 0:=by
 have hl:=o.hs.len;unfold HK.upto;cases hs:h.ss with
 | nil=>rw[hs]at hl; simp at hl
 | cons s r=>rfl
abbrev HD.Ok.aqJ{H ã:HD}(h:H.Ok K)(k:Nat)(hk:(⟨H.key.ss,H.key.es,k⟩:HK)=ã.key)(hG:ã.key.Ok):HD.Ok K ⟨H.sa,H.sc,H.ss,H.ea,H.ec,H.es,k⟩:=⟨(show(⟨H.key.ss,H.key.es,k⟩:HK).Ok from hk▸hG),h.s,h.e⟩
end
section
open Go.RowKit Go.Sx
variable{α:Type}{K:Nat}
structure iV where
 d:Int
 e:aP
def iV.cells(s:iV):List À := .i s.d::s.e.cells
def iV.v(s:iV):À := .agg s.cells.toArray
noncomputable def HK.step(h:HK)(d:Int)(e:bH):HK×Int:=if d = -1 then h.undo else if d=1 then h.redo else h.app e
noncomputable def HK.steps(h:HK)(l:List iV):HK:=l.foldl (λh x=>(h.step x.d x.e.key).1) h
abbrev HK.Xp{h:HK}{l:List iV}{j:Nat}(hj:j<l.length){x:iV}(hx:l[j]=x):h.steps (l.take (j+1))=((h.steps (l.take j)).step x.d x.e.key).1:=by
 unfold HK.steps;rw[<-List.take_append_getElem hj,List.foldl_append,hx]; rfl
abbrev HK.abk(h:HK)(e:bH){d:Int}(hd:(d == -1)=true):h.step d e=h.undo:=Ï (by simpa using hd)
abbrev HK.abl(h:HK)(e:bH){d:Int}(h1:(d == -1)=false)(hd:(d==1)=true):h.step d e=h.redo:=by
 unfold HK.step; rw[É (by simpa using h1),Ï (by simpa using hd)]
abbrev HK.ae6(h:HK)(e:bH){d:Int}(h1:(d == -1)=false)(hd:(d==1)=false):h.step d e=h.app e:=by
 unfold HK.step; rw[É (by simpa using h1),É (by simpa using hd)]
variable{w:Á}{j cap:Nat}{a:Option Addr}{b:Bool}
abbrev abm{P:bH->Prop}(hA:ApC P){w0:Á}{b c:Nat}{H:HD}{x:iV}(hP:P x.e.key)(hE:Ext w0 w)(hx:Bx w b H.cells.toArray)(hb:w0.heap.size<=b)(hcb:c<=b)(hok:H.Ok K)(hm:H.mem K c b w)(hg:bZ w)(he:jd K w x.e)(hel:x.e.node.lim) :
  Ä prog 40 #[.q b 0,x.v] w λr w'=>∃(H':HD) (code:Int),r = .R (.i code)∧(H'.key,code)=H.key.step x.d x.e.key∧H'.Ok K∧H'.mem K c b w'∧Ext w0 w'∧Ch b w w'∧Bx w' b H'.cells.toArray:=by
 skip;refine YP func40 ntmps40 hE hx hb λS=>Í S λu b2 E3 hb4 S=>Å S 5 [] [.M 0 0] λS=>È S ((x.d) == -1) (λhc8 S=>?_) (λhc8 S=>?_)
 .have χ:Ext w u:=E3;have hch:=((Ch.trans (Ch.refl b w) (Ch.bY E3)));refine Ď S 1 I (Xn S.E (S.bx 1) hb hcb hok ((ò hm E3))) ?_;rintro e u ⟨H1,code,rfl,hkk,hok1,hm1,hE1,ű,hX1⟩;rw[<-HK.abk _ x.e.key hc8]at hkk;refine⟨_,_,I,hE1,ű,hX1,λS=>?_⟩;refine Æ S (.i code) (λS=>?_);exact⟨H1,code,I,hkk,hok1,hm1,S.E,Ch.trans hch ű,S.pV 1⟩
 refine È S ((x.d)==1) (λfV S=>?_) (λfV S=>?_)
 .have χ:Ext w u:=E3;have hch:=((Ch.trans (Ch.refl b w) (Ch.bY E3)));refine Ď S 1 I (Xo S.E (S.bx 1) hb hcb hok ((ò hm E3))) ?_;rintro e u ⟨H1,code,rfl,hkk,hok1,hm1,hE1,ű,hX1⟩;rw[<-HK.abl _ x.e.key hc8 fV]at hkk;refine⟨_,_,I,hE1,ű,hX1,λS=>?_⟩;refine Æ S (.i code) (λS=>?_);exact⟨H1,code,I,hkk,hok1,hm1,S.E,Ch.trans hch ű,S.pV 1⟩
 have χ:Ext w u:=E3;have hch:=((Ch.trans (Ch.refl b w) (Ch.bY E3)));refine Å S 3 [] [.M 0 1] λS=>Ď S 1 I (vI hA hP S.E (S.bx 1) hb hcb hok ((ò hm E3)) (bZ.below hg χ) (he.below χ) hel) ?_;rintro e u ⟨H1,code,rfl,hkk,hok1,hm1,hE1,ű,hX1⟩;rw[<-HK.ae6 _ x.e.key hc8 fV]at hkk;refine⟨_,_,I,hE1,ű,hX1,λS=>?_⟩;refine Æ S (.i code) (λS=>?_);exact⟨H1,code,I,hkk,hok1,hm1,S.E,Ch.trans hch ű,S.pV 1⟩
abbrev abn{P:bH->Prop}(hA:ApC P){s:aA}{l:List iV}(h:bM K w s)(hlim:∀n∈s.ns,n.lim)(hg:bZ w)(hv:s.key.valid=true)(hrow:aI 56 iV.cells w (.s a l.length cap) l)(ho:∀x∈l,jd K w x.e∧x.e.node.lim∧P x.e.key) :
  Ä prog 21 #[s.v,.s a l.length cap] w λr w'=>∃(b:Nat) (H:HD),r = .R (.q b 0)∧w.heap.size<=b∧Bx w' b H.cells.toArray∧H.mem K w.heap.size b w'∧H.Ok K∧H.key=HK.steps ⟨[s.key],[],0⟩ l∧Ext w w':=by
 have hmax:l.length<=9223372036854775807:=hrow.len;refine Ë func21 ntmps21 λS=>Í S (λu b2 E3 hb4 S=>?_);have hold:=λp hp=>(S.own p hp).1.1;have lg:=S.E.size;obtain⟨c0,hc0⟩:∃z:Nat,z=u.heap.size:=⟨_,I⟩;refine Å S 2 [] [.M 0 0] λS=>î S (Pz (h.below S.E) (bZ.below hg S.E) hlim hv) ?_;rintro e u ⟨bh,H1,rfl,hcb,hX1,hm1,⟨hok1,hk1⟩,E6⟩;rw[<-hc0]at hcb hm1 hold lg;refine⟨_,I,E6,λS=>?_⟩;have S:=S.fl;have S:=S.adopt (A:=H1.cells) hX1 Z (λp hp=>by have:=hold p hp; omega) (λm hm=>by cases hm);refine ú S λS=>ĕ S (ι:=Nat×HD) (λp a' w'=>(p.2.key=HK.steps ⟨[s.key],[],0⟩ (l.take p.1)∧p.2.Ok K∧p.2.mem K c0 bh w'∧p.1<=l.length)∧Sx.St w a' w' 27 [(0,s.v),(1,.s a l.length cap),(2,.q b2 0),(4,(.pointer none)),(5,.q bh 0),(6,.i 0),(16,.s a l.length cap),(17,.i l.length),(18,.i p.1)] [(bh,p.2.cells),(b2,s.cells)] []) (λp=>l.length-p.1) (0,H1) (λS=>⟨⟨hk1,hok1,hm1,Õ _⟩,S.oK⟩) ?_;rintro⟨j,H2⟩ ac u ig fC hI;try dsimp only at hI
 obtain⟨hR,S⟩:=hI;refine Ė S (λS=>?_);obtain⟨hk2,hok2,hm2,hjl⟩:=hR;have lg:=S.E.size;refine È S (decide ((j:Int)<(l.length:Int))) (λhc13 S=>?_) (λhc13 S=>?_)
 .have hj:j<l.length:=by have:=å hc13; omega
  have JC:j<l.length:=hj;obtain⟨b16,o17,rfl,tJ,Le,NV,ae7⟩:=û hrow (λ_=>I) (j) JC;have S:=S.view0 NV ae7;refine Å S 2 [] [.idx j l.length,.M 2 0] (hk:=⟨JC,G⟩) λS=>Í S λu b24 FD alm S=>à S 0 I (λu YL S=>?_);have Qr:=Ö FD YL;have hxo:=ho tJ (Le▸þ hj);refine Å S 2 [] [.M 0 0] (λS=>?_);have S:=S.fl;refine Ď S 1 I (abm (x:=tJ) hA hxo.2.2 S.E (S.bx 1) (S.old 1) hcb hok2 ((ò hm2 Qr)) (bZ.below hg S.E) (hxo.1.below S.E) hxo.2.1) ?_;rintro e u ⟨H3,code,rfl,hkk,ae8,ς,hE3,Xq,hX3⟩;have hk3:H3.key=HK.steps ⟨[s.key],[],0⟩ (l.take (j+1)):=by rw[HK.Xp hj Le,<-hk2]; exact Ñ Prod.fst hkk
  refine⟨_,_,I,hE3,Xq,hX3,λS=>?_⟩;have wG:=(Sx.On.ch ((ò hm2 Qr)) Xq Z);refine Å S 2 [] [.re 25 (.i (IntKind.i64.wrap ((j:Int)+1))) (.i (j+1:Nat))] (hk:=⟨(ą Z),G⟩) λS=>ė S ig (λS=>?_);exact fC _ _ ((j+1),H3) ⟨⟨hk3,ae8,ς,hj⟩,(S.l9 1).oK⟩ (by show l.length-(j+1)<l.length-j; omega)
 have aqK:l.length<=j:=by have:=ñ hc13; omega
 rw[Ĝ aqK]at hk2;refine Æ S (.q bh 0) (λS=>?_);exact⟨bh,H2,I,Z,S.pV 0,K12 hm2 Z,hok2,hk2,S.E⟩
abbrev ae9{s:aA}(h:bM K w s)(hg:bZ w)(hlim:∀n∈s.ns,n.lim)(hv:s.key.valid=false) :
  Ä prog 25 #[s.v] w (RF w (.tuple #[.pointer none,.i 18])):=
 (TG h hg hlim).mono λe w' h=>by
  rcases h with ⟨-,h⟩ | ⟨h1,-⟩
  .exact h
  .rw[hv]at h1; cases h1
abbrev yQ:∀{a b:Bool},cond a false b=true->a=false∧b=true:=by decide
abbrev Zj{t:aT}(h:t.fit 20):t.lim:=⟨h.1.mono O,h.2.1.mono O,h.2.2.1.mono O,h.2.2.2.1.mono O,h.2.2.2.2.1.mono O,h.2.2.2.2.2.mono O⟩
abbrev Ep{r:bn}(h:((decide (12<(r.l1.length:Int)))||(decide (12<(r.l2.length:Int))))=false):r.fit 20:=by
 simp only[Ĕ,ð]at h;exact⟨Z,Z⟩
def aT.lt(t:aT):Bool:=cond ((decide (12<(t.a.l1.length:Int)))||(decide (12<(t.a.l2.length:Int)))) (false) (cond ((decide (12<(t.b.l1.length:Int)))||(decide (12<(t.b.l2.length:Int)))) (false) (cond ((decide (12<(t.c.l1.length:Int)))||(decide (12<(t.c.l2.length:Int)))) (false) (cond ((decide (12<(t.d.l1.length:Int)))||(decide (12<(t.d.l2.length:Int)))) (false) (cond ((decide (12<(t.e.l1.length:Int)))||(decide (12<(t.e.l2.length:Int)))) (false) (cond ((decide (12<(t.f.l1.length:Int)))||(decide (12<(t.f.l2.length:Int)))) (false) (true))))))
abbrev TK{t:aT}(h:t.ok w) :
  Ä prog 69 #[t.v] w (RF w (.b t.lt)):=by
 obtain⟨t0,t1,t2,t3,t4,t5⟩:=h;obtain⟨p0,c0,e0,-⟩:=t0.1;obtain⟨q0,d0,f0,-⟩:=t0.2;obtain⟨p1,c1,e1,-⟩:=t1.1;obtain⟨q1,d1,f1,-⟩:=t1.2;obtain⟨p2,c2,e2,-⟩:=t2.1;obtain⟨q2,d2,f2,-⟩:=t2.2;obtain⟨p3,c3,e3,-⟩:=t3.1;obtain⟨q3,d3,f3,-⟩:=t3.2;obtain⟨p4,c4,e4,-⟩:=t4.1;obtain⟨q4,d4,f4,-⟩:=t4.2;obtain⟨p5,c5,e5,-⟩:=t5.1;obtain⟨q5,d5,f5,-⟩:=t5.2;refine Ë func69 ntmps69 λS=>Í S λu b2 E3 hb4 S=>Å S 13 [] [.M 0 0,.M 0 4,.M 0 8,.M 0 12,.M 0 16,.M 0 20] λS=>Í S λu b6 E7 hb8 S=>Qu S 6 λS=>â S λS=>Å S 18 [] [.M 0 1,.M 0 3] λS=>È S ((decide (12<(t.a.l1.length:Int)))||(decide (12<(t.a.l2.length:Int)))) (λkC S=>?_) (λkC S=>?_)
 .refine Æ S (.z) (λS=>?_);exact⟨aC (by unfold aT.lt; rw[kC]; rfl),S.E⟩
 refine â S λS=>Å S 18 [] [.M 0 5,.M 0 7] λS=>È S ((decide (12<(t.b.l1.length:Int)))||(decide (12<(t.b.l2.length:Int)))) (λhc21 S=>?_) (λhc21 S=>?_)
 .refine Æ S (.z) (λS=>?_);exact⟨aC (by unfold aT.lt; rw[kC,hc21]; rfl),S.E⟩
 refine â S λS=>Å S 18 [] [.M 0 9,.M 0 11] λS=>È S ((decide (12<(t.c.l1.length:Int)))||(decide (12<(t.c.l2.length:Int)))) (λhc27 S=>?_) (λhc27 S=>?_)
 .refine Æ S (.z) (λS=>?_);exact⟨aC (by unfold aT.lt; rw[kC,hc21,hc27]; rfl),S.E⟩
 refine â S λS=>Å S 18 [] [.M 0 13,.M 0 15] λS=>È S ((decide (12<(t.d.l1.length:Int)))||(decide (12<(t.d.l2.length:Int)))) (λuH S=>?_) (λuH S=>?_)
 .refine Æ S (.z) (λS=>?_);exact⟨aC (by unfold aT.lt; rw[kC,hc21,hc27,uH]; rfl),S.E⟩
 refine â S λS=>Å S 18 [] [.M 0 17,.M 0 19] λS=>È S ((decide (12<(t.e.l1.length:Int)))||(decide (12<(t.e.l2.length:Int)))) (λhc39 S=>?_) (λhc39 S=>?_)
 .refine Æ S (.z) (λS=>?_);exact⟨aC (by unfold aT.lt; rw[kC,hc21,hc27,uH,hc39]; rfl),S.E⟩
 refine â S λS=>Å S 18 [] [.M 0 21,.M 0 23] λS=>È S ((decide (12<(t.f.l1.length:Int)))||(decide (12<(t.f.l2.length:Int)))) (λAw S=>?_) (λAw S=>?_)
 .refine Æ S (.z) (λS=>?_);exact⟨aC (by unfold aT.lt; rw[kC,hc21,hc27,uH,hc39,Aw]; rfl),S.E⟩
 refine ú S λS=>Æ S (.b true) (λS=>?_);exact⟨aC (by unfold aT.lt; rw[kC,hc21,hc27,uH,hc39,Aw]; rfl),S.E⟩
abbrev afa{P:Program}{os:List Oper}{i:Nat}{o:Oper}{ρ:Operand->À}(ho:os[i]?=some o){t e:á}{z:À}{k bytes:Nat}(T:gu P t e z k bytes){sl sx:Nat}{ad:Addr}{y:À}{f:α->List À}{L:List α}
  (hs:ρ (.tmp sl) = .s (some ad) 0 0) (hx:ρ (.tmp sx)=y) (hy:aI k f w y L) (hf:∀x,(f x).length=k) (h1:∀x,(f x).all (·.oneCell')=true) (hbytes:L.length*bytes<=140737488355328) (h63:L.length<=maxLen) {Post:À->Á->Prop} (hK:∀v' w',((L=[]∧∃ad,v' = .s (some ad) 0 0)∨w'.ownsRow w.heap.size e k v' L.length (L.flatMap f))->Ext w w'->Post v' w')
  (hop:LM os i=some (.tmp sl,.tmp sx,t,true):=by kernel_rfl):Rel.Does P o ρ w Post:=by
 cases L with
 | nil =>
  obtain⟨a,c,rfl⟩:=hy.shape;exact LP ho T (Ó 0) hs hx (hK _ _ (.inl ⟨I,ad,I⟩) ô) hop
 | cons x r =>
  have hw:dN w k (.s (some ad) 0 0) 0 []:=⟨by simp,λu hu=>(by cases hu),.inl ⟨I,some ad,0,I,λe=>(by cases e)⟩⟩;refine wU (f:=0) ho T hs hx hw (kD hy hf h1) Y (by simpa using h63) (by simpa using hbytes) (λv' w' h hE=>hK v' w' (.inr ?_) hE) hop;simpa using h
abbrev _root_.Go.Sx.aln{P:Program}{ops:Array Oper}{Q:Exit->Act->Á->Prop}{n:Nat}{w0 w:Á}{a:Act}{os:List Oper}{l:List (Nat×À)}{bl:List (Nat×List À)}{vs:List eU}(S:Sx.St w0 a w n l bl vs)(d:Nat){t e:á}{z:À}{k bytes ub:Nat}(T:gu P t e z k bytes){f:α->List À}{L M:List α}{v y:À}
  (hb:∀p∈bl,p.1<ub) (h0:w0.heap.size<=ub) (hv:(L=[]∧∃ad,v = .s (some ad) 0 0)∨w.ownsRow ub e k v L.length (L.flatMap f)) (hy:aI k f w y M) (hf:∀x,(f x).length=k) (h1:∀x,(f x).all (·.oneCell')=true) (h63:L.length+M.length<=maxLen) (hbytes:(L.length+M.length)*bytes<=140737488355328)
  (next:∀a' w' v',(∃A c,v' = .s A (L++M).length c∧aI k f w' (.s A (L++M).length c) (L++M)∧∀g o,A=some ⟨g,o,none⟩->0<(L++M).length->∀p∈bl,p.1≠g)->Sx.St w0 a' w' n ((d,v')::l) bl []->wpList P ops Q (os.drop 1) a' w')
  (hx:Jc os l=some (t,v,y,some d):=by kernel_rfl) (hd:uN n (some d)=true:=by rfl):wpList P ops Q os a w:=by
 have hbw:∀p∈bl,p.1<w.heap.size:=λp hp=>(S.own p hp).1.1;rcases hv with ⟨rfl,ad,rfl⟩ | hv
 .refine aqL S d T hy (by simpa using hbytes) (λa' w' v' hE hF S=>?_) hx hf h1 hd;have h:=ü hF;obtain⟨A,c,rfl⟩:=h.1.shape;refine next _ _ _ ⟨A,c,I,h.1,λg o e h0 p hp he=>?_⟩ S.qw;subst e;rcases h.2 with h2 | ⟨g',c',cur,hv,hg,hh⟩
  .exact absurd h0 (by show ¬0<M.length; omega)
  simp only[Ĉ,Ò,Ÿ]at hv;have:=hbw p hp;omega
 have R:=(ĺ S).add (r:=⟨e,k,v,L.length,L.flatMap f⟩) hv (λb hb'=>by obtain⟨x,hx'⟩:∃x,(b,x)∈bl:=(by simpa[Ob]using hb'); exact hb _ hx') h0;refine Sx.app S R 0 d I T (kD hy hf h1) h63 hbytes (λa' w' v' ý R S=>?_) hx hd;have h:=R.own _ ë;obtain⟨A,c,e7⟩:=Sx.jk h;replace e7:v' = .s A (L++M).length c:=e7.trans (Ñ (λn=>Value.s A n c) Y);subst e7;have h2:w'.ownsRow w0.heap.size e k (.s A (L++M).length c) (L++M).length ((L++M).flatMap f):=by rw[ì,ŉ]; rw[ì]at h; exact h
 refine next _ _ _ ⟨A,c,I,ü (lu hf h2 I I),λg o e h0=>?_⟩ S;obtain⟨g',rfl⟩:=IX h2 h0;cases e;exact(R.range ë (show Value.s (some ⟨g,0,none⟩) (L++M).length c = .slice (some ⟨g,0,none⟩) (L.length+M.length) c by rw[ì]) 0 (cs:=[]) I).2.2
def aj.lt(p:aj):Bool := !(((!(p.t.lt))||(decide (30<(p.stops.length:Int))))||(decide (300<(p.img.l.length:Int))))
def ah.lt0(n:ah):Bool:=((((((decide (24<(n.path.length:Int)))||(decide (24<(n.clip.length:Int))))||(decide (20<(n.style.dash.length:Int))))||(decide (300<(n.img.l.length:Int))))||(!(n.t.lt)))||(decide (3<(n.fill.length:Int))))||(decide (3<(n.stroke.length:Int)))
def ah.lt(n:ah):Bool := !n.lt0&&(n.fill++n.stroke).all aj.lt
def aA.light(s:aA):Bool := !(decide (8<s.ns.length)&&decide (s.ns.length<=64))&&(s.ns.take 65).all ah.lt
abbrev ahV{n:ah}(h:n.lt0=false):n.fill.length<=3∧n.stroke.length<=3:=by
 unfold ah.lt0 at h;simp only[Ĕ,ð]at h;omega
abbrev TL{p:aj}(h:(((!(p.t.lt))||(decide (30<(p.stops.length:Int))))||(decide (300<(p.img.l.length:Int))))=b):p.lt = !b:=by unfold aj.lt; rw[h]
abbrev afb{l:List ah}(h:j<l.length)(hj:j<=64)(hb:(l[j]).lt=false):(l.take 65).all ah.lt=false:=by
 refine rP (k:=j) (by rw[Ľ]; omega) ?_;rw[ayP]; exact hb
abbrev alo{l:List ah}(hR:(l.take j).all ah.lt=true)(h:¬(j<l.length∧j<=64))(hj:j<=65)(hl:j<=l.length):(l.take 65).all ah.lt=true:=by
 by_cases h2:j<l.length
 .obtain rfl:j=65:=by omega
  exact hR
 rw[Ĝ Z]at hR;exact ø.2 λx hx=>ø.1 hR x (ţ hx)
abbrev GN{n:Nat}(h:((decide ((8:Int)<(n:Int)))&&(decide ((n:Int)<=64)))=b):(decide (8<n)&&decide (n<=64))=b:=by
 rw[<-h]; congr 1<;>(apply ay6.2; omega)
abbrev Fa{s:aA}(h0:aI 47 ah.cells w s.s s.ns∧∀n∈s.ns,n.ok w) :
  Ä prog 39 #[s.v] w (RF w (.b s.light)):=by
 have hmax:s.ns.length<=9223372036854775807:=h0.1.len;refine Ë func39 ntmps39 (λS=>?_);obtain⟨a,cap,es⟩:∃a c,s.s = .s a s.ns.length c:=⟨_,_,I⟩;have hr0:=h0.1;have hn0:=h0.2;rw[es]at hr0;refine Í S λu b2 E3 hb4 S=>Å S 11 [] [.M 0 6,.re 8 s.s (.s a s.ns.length cap),.M 0 6,.re 13 s.s (.s a s.ns.length cap)] (hk:=⟨es,es,G⟩) λS=>È S ((decide (8<(s.ns.length:Int)))&&(decide ((s.ns.length:Int)<=64))) (λkP S=>?_) (λkP S=>?_)
 .refine Æ S (.z) (λS=>?_);exact⟨aC (by unfold aA.light; rw[GN kP]; rfl),S.E⟩
 refine ĕ S (ι:=Nat) (λp a' w'=>((s.ns.take p).all ah.lt=true∧p<=s.ns.length∧p<=65)∧Sx.St w a' w' 114 [(0,s.v),(1,.q b2 0),(2,.z),(3,.i p)] [(b2,s.cells)] []) (λp=>s.ns.length-p) (0) (λS=>⟨⟨I,Õ _,Õ _⟩,S.oK⟩) ?_;rintro j ac u ig fC hI;try dsimp only at hI
 obtain⟨hR,S⟩:=hI;refine Ė S (λS=>?_);obtain⟨hall,hjl,hj5⟩:=hR;refine Å S 9 [] [.M 0 6,.re 19 s.s (.s a s.ns.length cap)] (hk:=⟨es,G⟩) λS=>È S ((decide ((j:Int)<(s.ns.length:Int)))&&(decide ((j:Int)<=64))) (λhc13 S=>?_) (λhc13 S=>?_)
 .have hj:j<s.ns.length∧j<=64:=by have:=hc13; simp at this; omega
  have JC:j<s.ns.length:=hj.1;obtain⟨b16,o17,rfl,tJ,Le,NV,ae7⟩:=û hr0 (λ_=>I) (j) JC;have h:=hn0 _ (Le▸þ JC);obtain⟨a1,c1,ecs⟩:=h.2.2.2.2.1.1.shape;obtain⟨a2,c2,eps⟩:=h.2.2.2.2.2.2.2.1.1.shape;obtain⟨a3,c3,efs⟩:=h.2.2.2.2.2.2.2.2.2.1.1.shape;obtain⟨a4,c4,ess⟩:=h.2.2.2.2.2.2.2.2.2.2.2.1.1.shape;obtain⟨a5,c5,est,-⟩:=h.2.2.2.2.2.2.2.2.2.2.1.2.2.2.2.1;obtain⟨a6,c6,eim⟩:=h.2.2.2.2.2.2.2.2.2.2.2.2.1.2.2.shape;have S:=S.view0 NV ae7;refine Å S 5 [] [.M 0 6,.re 29 s.s (.s (some ⟨b16,o17,none⟩) s.ns.length cap),.idx j s.ns.length,.M 1 0] (hk:=⟨es,JC,G⟩) λS=>Í S λu b24 FD alm S=>à S 0 I λu YL S=>ě S 42 [.M 0 33,.M 0 27,.M 0 40,.M 0 45,.M 0 3,.M 0 35,.M 0 42] [(_,_,(!((((decide (24<(tJ.path.length:Int)))||(decide (24<(tJ.clip.length:Int))))||(decide (20<(tJ.style.dash.length:Int))))||(decide (300<(tJ.img.l.length:Int))))),.b (tJ.t.lt))] [(74,.b (((((((decide (24<(tJ.path.length:Int)))||(decide (24<(tJ.clip.length:Int))))||(decide (20<(tJ.style.dash.length:Int))))||(decide (300<(tJ.img.l.length:Int))))||(!(tJ.t.lt)))||(decide (3<(tJ.fill.length:Int))))||(decide (3<(tJ.stroke.length:Int)))))] ⟨λu hC g=>TK (t:=tJ.t) (h.2.2.2.1.below (Ã S.E hC)),G⟩ λu E30 S=>È S (((((((decide (24<(tJ.path.length:Int)))||(decide (24<(tJ.clip.length:Int))))||(decide (20<(tJ.style.dash.length:Int))))||(decide (300<(tJ.img.l.length:Int))))||(!(tJ.t.lt)))||(decide (3<(tJ.fill.length:Int))))||(decide (3<(tJ.stroke.length:Int)))) (λhc31 S=>?_) (λhc31 S=>?_)
  .refine Æ S (.z) (λS=>?_);have hc0:=GN kP;exact⟨aC (by unfold aA.light; rw[hc0,afb hj.1 hj.2 (by rw[Le]; unfold ah.lt ah.lt0; rw[hc31]; rfl)]; rfl),S.E⟩
  have hlt0:tJ.lt0=false:=hc31;have hln:=ahV hlt0;have holdB:=λp hp=>(S.own p hp).1.1;have afc:=S.E.size;obtain⟨ub,hub⟩:∃z:Nat,z=u.heap.size:=⟨_,I⟩;rw[<-hub]at holdB afc;have hfr:=h.2.2.2.2.2.2.2.2.2.1;have hsr:=h.2.2.2.2.2.2.2.2.2.2.2.1;have hold:=λp hp=>(S.own p hp).1.1;have lg:=S.E.size;refine Ů S f39 9 (λS iz=>?_);refine ug S 6 [(75,iK u.heap.size [] (some 0)),(78,λv w1=>(tJ.fill=[]∧∃ad,v = .s (some ad) 0 0)∨w1.ownsRow ub 133 40 v tJ.fill.length (tJ.fill.flatMap aj.cells))] (λr=>[.new 75 [] (some 0) r,.M 0 35,.hand 78 [(77,tJ.fs)],.M 0 42]) (λx=>[x 75,x 78]) (λx=>[]) [] (λx=>[(78,x 78),(80,tJ.ss)]) ⟨iK.mono,λ_ _ _ k h=>h.imp id λh=>Sx.dO h k,G⟩ (λx=>G) (λac u x Yw F S=>?_) (hN:=λr=>⟨⟨I,I⟩,G⟩) (hk:=λr=>⟨G,G,G⟩) (hl:=[(3,[75])]) (hH:=λx r=>⟨λo ho ρ u hs hE hρ hV F=>by obtain⟨F75,-⟩:=F; obtain⟨b,e1,-,h1⟩:=F75; exact afa ho OC ((hρ 75 O I).trans e1) (hV (77,_) ë) (hfr.1.below (Ã S.E hE)) (λ_=>I) (λ_=>I) Z (by show tJ.fill.length<=9223372036854775807; omega) (λv' w' h hE2=>Ĵ ho I I hE2 (h.imp id λh=>Sx.ownsRow_base h (by rw[hub]; exact hE.size))),G⟩);refine Sr S (λS=>?_);obtain⟨F75,F78,-⟩:=F;obtain⟨v78,anT⟩:∃z,z=x 78:=⟨_,I⟩;rw[<-anT]at S F78;try rw[<-anT]
  replace F78:(tJ.fill=[]∧∃ad,v78 = .s (some ad) 0 0)∨u.ownsRow ub 133 40 v78 tJ.fill.length (tJ.fill.flatMap aj.cells):=F78;refine ċ S λS=>Sx.aln S 81 OC holdB afc F78 (hsr.1.below S.E) (λ_=>I) (λ_=>I) (by show tJ.fill.length+tJ.stroke.length<=9223372036854775807; omega) Z λac u v81 F81 S=>FV S (λS=>?_);obtain⟨PL,hPL⟩:∃z,z=tJ.fill++tJ.stroke:=⟨_,I⟩;rw[<-hPL]at F81;obtain⟨a7,c7,rfl,hrow,hne⟩:=F81;have hpm:PL.length<=9223372036854775807:=hrow.len;have hne2:∀g o,a7=some ⟨g,o,none⟩->0<PL.length->b24≠g∧b2≠g:=λg o e h0=>⟨hne g o e h0 _ (ë),hne g o e h0 _ (Ŋ _ (ë))⟩;have hPo:∀p∈PL,p.ok w:=λp hp=>by rw[hPL]at hp; exact(đ.1 hp).elim (hfr.2 p) (hsr.2 p)
  refine ĕ S (ι:=Nat) (λp a' w'=>p<=PL.length∧((PL.take p).all aj.lt=true∧aI 40 aj.cells w' (.s a7 PL.length c7) PL)∧Sx.St w a' w' 114 [(0,s.v),(1,.q b2 0),(2,.z),(3,.i j),(4,.q b24 0),(5,.s a7 PL.length c7),(6,.i p)] [(b24,tJ.cells),(b2,s.cells)] []) (λp=>PL.length-p) (0) (λS=>⟨Õ _,⟨I,hrow⟩,S.oK⟩) ?_;rintro k ac u Qw alp hI;try dsimp only at hI
  obtain⟨hk,hR,S⟩:=hI;refine Ė S (λS=>?_);obtain⟨hR,hrow⟩:=hR;refine È S (decide ((k:Int)<(PL.length:Int))) (λhc38 S=>?_) (λhc38 S=>?_)
  .have Xr:k<PL.length:=by have:=å hc38; omega
   obtain⟨b41,o42,rfl,y47,alq,hb48,aqM⟩:=û hrow (λ_=>I) (k) Xr;have hpo:=hPo _ (alq▸þ Xr);obtain⟨r1,r2,er1⟩:=hpo.2.2.2.2.1.shape;obtain⟨r3,r4,er2⟩:=hpo.2.2.2.2.2.2.2.1.2.2.shape;have S:=S.view hb48 aqM (λp hp=>by rcases ç.1 hp with rfl | hp; (exact(hne2 _ _ I Z).1); rcases ç.1 hp with rfl | hp; (exact(hne2 _ _ I Z).2); cases hp);refine Å S 5 [] [.idx k PL.length,.M 2 16] (hk:=⟨Xr,G⟩) λS=>Þ S (TK (t:=y47.t) (hpo.2.2.2.2.2.2.2.2.2.below S.E)) λu NW S=>Å S 20 [] [.idx k PL.length,.M 2 10,.idx k PL.length,.M 2 14] (hk:=⟨Xr,Xr,G⟩) λS=>È S (((!(y47.t.lt))||(decide (30<(y47.stops.length:Int))))||(decide (300<(y47.img.l.length:Int)))) (λVN S=>?_) (λVN S=>?_)
   .refine Æ S (.z) (λS=>?_);have hc0:=GN kP;exact⟨aC (by unfold aA.light; rw[hc0,afb hj.1 hj.2 (by rw[Le]; unfold ah.lt; rw[hlt0,<-hPL,rP Xr (by rw[alq]; exact TL VN)]; rfl)]; rfl),S.E⟩
   refine Å S 3 [] [.re 87 (.i (IntKind.i64.wrap ((k:Int)+1))) (.i (k+1:Nat))] (hk:=⟨ą Z,G⟩) λS=>ė S Qw (λS=>?_);exact alp _ _ (k+1) ⟨Z,⟨jw Xr hR (by rw[alq]; exact TL VN),((hrow.below NW))⟩,S.oK⟩ (by show _-_<_-_; omega)
  have anU:tJ.lt=true:=by unfold ah.lt; rw[hlt0,<-hPL,pK (by have:=ñ hc38; omega) hR]; rfl
  refine Å S 3 [] [.re 27 (.i (IntKind.i64.wrap ((j:Int)+1))) (.i (j+1:Nat))] (hk:=⟨ą Z,G⟩) λS=>ė S ig (λS=>?_);exact fC _ _ (j+1) ⟨⟨jw hj.1 hall (by rw[Le]; exact anU),hj.1,Z⟩,(S.l9 1).oK⟩ (by show s.ns.length-(j+1)<s.ns.length-j; omega)
 refine Æ S (.b true) (λS=>?_);have hc0:=GN kP;exact⟨aC (by unfold aA.light; rw[hc0,alo hall (by have:=hc13; simp at this; omega) hj5 hjl]; rfl),S.E⟩
def iV.lt(x:iV):Bool:=x.e.node.lt
def vJ(s:aA)(l:List iV):Bool:=(l.take 40).all iV.lt&&(s.light&&decide (l.length<=24))
abbrev abo{s:aA}{n:ah}(h:s.ns=[n]):s.light=n.lt:=by
 unfold aA.light; rw[h]; simp
abbrev ahW{s:aA}{l:List iV}(h:j<l.length)(hj:j<40)(hb:(l[j]).lt=false):vJ s l=false:=by
 unfold vJ;rw[rP (k:=j) (p:=iV.lt) (by rw[Ľ]; omega) (by rw[ayP]; exact hb)]; rfl
abbrev ahX{s:aA}{l:List iV}(hR:(l.take j).all iV.lt=true)(h:¬(j<l.length∧j<40))(hj:j<=40)(hl:j<=l.length):vJ s l=(s.light&&decide (l.length<=24)):=by
 have:(l.take 40).all iV.lt=true:=by
  by_cases h2:j<l.length
  .obtain rfl:j=40:=by omega
   exact hR
  rw[Ĝ Z]at hR;exact ø.2 λx hx=>ø.1 hR x (ţ hx)
 unfold vJ; rw[this]; rfl
abbrev abp{s:aA}{n:ah}(h0:aI 47 ah.cells w s.s s.ns∧∀n∈s.ns,n.ok w)(h:s.ns=[n]) :
  Ä prog 39 #[s.v] w (RF w (.b n.lt)):=abo h▸Fa h0
abbrev TM{s:aA}{l:List iV}(h0:aI 47 ah.cells w s.s s.ns∧∀n∈s.ns,n.ok w)(hrow:aI 56 iV.cells w (.s a l.length cap) l)(ho:∀x∈l,x.e.node.ok w) :
  Ä prog 20 #[s.v,.s a l.length cap] w (RF w (.b (vJ s l))):=by
 have hmax:l.length<=9223372036854775807:=hrow.len;refine Ë func20 ntmps20 λS=>Í S λu b2 E3 hb4 S=>ĕ S (ι:=Nat) (λp a' w'=>((l.take p).all iV.lt=true∧p<=l.length∧p<=40)∧Sx.St w a' w' 33 [(0,s.v),(1,.s a l.length cap),(2,.q b2 0),(4,.z),(5,.i p)] [(b2,s.cells)] []) (λp=>l.length-p) (0) (λS=>⟨⟨I,Õ _,Õ _⟩,S.oK⟩) ?_;rintro j ac u ig fC hI;try dsimp only at hI
 obtain⟨hR,S⟩:=hI;refine Ė S (λS=>?_);obtain⟨hall,hjl,hj4⟩:=hR;refine È S ((decide ((j:Int)<(l.length:Int)))&&(decide ((j:Int)<40))) (λzB S=>?_) (λzB S=>?_)
 .have hj:j<l.length∧j<40:=by have:=zB; simp at this; omega
  have anV:j<l.length:=hj.1;obtain⟨b12,o13,rfl,x18,hx16,aap,aqN⟩:=û hrow (λ_=>I) (j) anV;have S:=S.view0 aap aqN;refine Å S 6 [] [.idx j l.length,.M 1 5] (hk:=⟨anV,G⟩) λS=>Í S (λu b20 FC TN S=>?_);have hno:x18.e.node.ok w:=ho _ (hx16▸þ hj.1);refine Þ S (abp (s:=(⟨0,0,.none,some ⟨b20,0,none⟩,1,[x18.e.node]⟩:aA)) (n:=x18.e.node) ⟨CV (f:=ah.cells) [x18.e.node] (λ_=>I) (by simpa using S.pV 0) (by show 1<=maxLen; decide),λn hn=>by rw[Ā.1 hn]; exact hno.below S.E⟩ I) λu Qv S=>È S (!x18.e.node.lt) (λhc24 S=>?_) (λhc24 S=>?_)
  .refine Æ S (.z) (λS=>?_);exact⟨aC (ahW hj.1 hj.2 (by rw[hx16]; exact(show x18.e.node.lt=false by simpa using hc24))).symm,S.E⟩
  refine Å S 3 [] [.re 15 (.i (IntKind.i64.wrap ((j:Int)+1))) (.i (j+1:Nat))] (hk:=⟨ą Z,G⟩) λS=>ė S ig (λS=>?_);exact fC _ _ (j+1) ⟨⟨jw hj.1 hall (by rw[hx16]; exact(show x18.e.node.lt=true by simpa using hc24)),hj.1,Z⟩,(S.l9 1).oK⟩ (by show l.length-(j+1)<l.length-j; omega)
 refine Å S 1 [] [.M 0 0] λS=>Þ S (Fa ⟨h0.1.below S.E,λn hn=>(h0.2 n hn).below S.E⟩) λu ϰ S=>Æ S (.b (s.light&&(decide ((l.length:Int)<=24)))) (λS=>?_);exact⟨aC ((ahX hall (by have:=zB; simp at this; omega) hj4 hjl).trans (by congr 1; exact ay6.2 Z)).symm,S.E⟩
def vK(id:Int)(t:aT):ah:=⟨id,1,0,t,none,0,[],0,255,1,false,false,none,0,[],0,none,0,[],aY.bare,none,0,[],dA.bare,0⟩
def anW:bQ:=⟨0,0,0,0⟩
def afd(id:Int)(t:aT)(b:Nat):ah:=⟨id,3,0,t,none,0,[],0,0,0,false,false,none,0,[],0,none,0,[],aY.bare,none,0,[],⟨1,1,some ⟨b,0,none⟩,1,[anW]⟩,1⟩
def TI(w:Á)(t:aT):Prop:=t.ok w∧t.Is qI
abbrev TI.below{w w':Á}{t:aT}(h:TI w t)(hE:Ext w w'):TI w' t:=⟨h.1.below hE,h.2⟩
abbrev TI.dG{w w':Á}{t:aT}{b:Nat}{A:Array À}(h:TI w t)(hc:Ch b w w')(hx:Bx w b A)(hA:A.toList.all Dl=true:=by rfl):TI w' t:=⟨h.1.dG hc hx hA,h.2⟩
abbrev aT.Is.q{t:aT}{Q:Q6}(h:t.Is Q)(hn:wW Q):t.q=Q:=by
 obtain⟨n0,n1,n2,n3,n4,n5⟩:=hn;obtain⟨⟨a0,b0,c0,d0⟩,⟨a1,b1,c1,d1⟩,⟨a2,b2,c2,d2⟩,⟨a3,b3,c3,d3⟩,⟨a4,b4,c4,d4⟩,⟨a5,b5,c5,d5⟩⟩:=h;unfold aT.q;rw[Nh a0 b0 c0 d0 n0,Nh a1 b1 c1 d1 n1,Nh a2 b2 c2 d2 n2,Nh a3 b3 c3 d3 n3,Nh a4 b4 c4 d4 n4,Nh a5 b5 c5 d5 n5]
abbrev aT.Is.fit{t:aT}{Q:Q6}{K:Nat}(h:t.Is Q)(hl:TP K Q):t.fit K:=by
 obtain⟨l0,l1,l2,l3,l4,l5⟩:=hl;obtain⟨h0,h1,h2,h3,h4,h5⟩:=h;exact⟨yR h0.2.1 h0.2.2.2 l0,yR h1.2.1 h1.2.2.2 l1,yR h2.2.1 h2.2.2.2 l2,yR h3.2.1 h3.2.2.2 l3,yR h4.2.1 h4.2.2.2 l4,yR h5.2.1 h5.2.2.2 l5⟩
def TQ(w:Á)(id kind:Int)(nd:ah):Prop:=
 (kind=1∧∃t,TI w t∧nd=vK id t)∨(kind=2∧∃t,TI w t∧nd=iL id t)∨(kind=3∧∃t b,TI w t∧Bx w b #[.u 0,.u 0,.u 0,.u 0]∧nd=afd id t b)∨((kind≠1∧kind≠2∧kind≠3)∧nd=fM)
abbrev JD(w:Á) :
  Ä prog 84 #[.i 1,.i 0,.i 0,.i 1,.agg Sx.zr.toArray,.agg Sx.zr.toArray] w λe w'=>∃x,e = .R x∧BU w.heap.size w' x qI∧Ext w w':=by
 skip;refine Ë func84 ntmps84 λS=>Ú S Sx.zr λu b2 E3 hb4 S=>Ú S Sx.zr λu b5 E6 hb7 S=>Ú S Sx.za λu b8 E9 tX S=>Į S 12 [(14,λv w1=>bF w.heap.size w1 v (false,1,1)),(16,λv w1=>bF w.heap.size w1 v (false,0,1)),(18,λv w1=>bF w.heap.size w1 v (false,0,1)),(20,λv w1=>bF w.heap.size w1 v (false,1,1)),(22,λv w1=>bF w.heap.size w1 v q0),(24,λv w1=>bF w.heap.size w1 v q0)] (λr=>[.M 2 0,.M 1 0]) (λx=>[x 14,x 16,x 18,x 20,x 22,x 24]) (λx=>[(_,_,true,x 14,14),(_,_,true,x 16,16),(_,_,true,x 18,18),(_,_,true,x 20,20),(_,_,true,x 22,22),(_,_,true,x 24,24)]) [[],[],[],[],[],[]] (λx=>[(14,x 14),(16,x 16),(18,x 18),(20,x 20),(22,x 22),(24,x 24)]) ⟨λ_ _ _ k h=>h.ext k,λ_ _ _ k h=>h.ext k,λ_ _ _ k h=>h.ext k,λ_ _ _ k h=>h.ext k,λ_ _ _ k h=>h.ext k,λ_ _ _ k h=>h.ext k,G⟩ (λx=>⟨by intro u hC g F; exact(gJ 1 _ O).mono λe w2 h=>by obtain⟨y,rfl,hx,hb⟩:=h; exact⟨_,I,au.mono hx ((Ã S.E hC)).size,hb⟩,by intro u hC g F; exact(gJ 0 _ O).mono λe w2 h=>by obtain⟨y,rfl,hx,hb⟩:=h; exact⟨_,I,au.mono hx ((Ã S.E hC)).size,hb⟩,by intro u hC g F; exact(gJ 0 _ O).mono λe w2 h=>by obtain⟨y,rfl,hx,hb⟩:=h; exact⟨_,I,au.mono hx ((Ã S.E hC)).size,hb⟩,by intro u hC g F; exact(gJ 1 _ O).mono λe w2 h=>by obtain⟨y,rfl,hx,hb⟩:=h; exact⟨_,I,au.mono hx ((Ã S.E hC)).size,hb⟩,by intro u hC g F; exact(gV _ q0 1 _ (K06▸bn.toQ (bn.fQ _) (bn.gQ 1)) O).mono λe w2 h=>by obtain⟨y,rfl,hx,hb⟩:=h; exact⟨_,I,hx.mono ((Ã S.E hC)).size,hb⟩,by intro u hC g F; exact(gV _ q0 1 _ (K06▸bn.toQ (bn.fQ _) (bn.gQ 1)) O).mono λe w2 h=>by obtain⟨y,rfl,hx,hb⟩:=h; exact⟨_,I,hx.mono ((Ã S.E hC)).size,hb⟩,G⟩) (λu x uM F S=>?_);obtain⟨UY,F16,Α,F20,D9,F24,-⟩:=F;obtain⟨r0,e0⟩:=au.iL UY;rw[e0]at S UY;try rw[e0]
 obtain⟨r1,e1⟩:=au.iL F16;rw[e1]at S F16;try rw[e1]
 obtain⟨r2,e2⟩:=au.iL Α;rw[e2]at S Α;try rw[e2]
 obtain⟨r3,e3⟩:=au.iL F20;rw[e3]at S F20;try rw[e3]
 obtain⟨r4,e4⟩:=au.iL D9;rw[e4]at S D9;try rw[e4]
 obtain⟨r5,e5⟩:=au.iL F24;rw[e5]at S F24;try rw[e5]
 have BD:=S.bx 0;refine è S 0 (off:=0) (cs:=(r0.cells++r1.cells++r2.cells++r3.cells++r4.cells++r5.cells)) I (λu C13 S=>?_);have sK:=au.dG UY C13 BD;have Rq:=au.dG F16 C13 BD;have VG:=au.dG Α C13 BD;have Am:=au.dG F20 C13 BD;have pI:=au.dG D9 C13 BD;have FN:=au.dG F24 C13 BD;refine ă S 0 I (v := .agg (r0.cells++r1.cells++r2.cells++r3.cells++r4.cells++r5.cells).toArray) (λS=>?_);exact⟨_,I,⟨⟨r0,r1,r2,r3,r4,r5⟩,I,sK,Rq,VG,Am,pI,FN⟩,S.E⟩
abbrev Gf(w:Á) :
  Ä prog 52 #[] w λe w'=>∃t:aT,e = .R t.v∧TI w' t∧Ext w w':=by
 skip;refine Ë func52 ntmps52 λS=>Ú S Sx.za λu b2 E3 hb4 S=>î S (JD _) ?_;rintro e u ⟨x,rfl,hm,E6⟩;obtain⟨m,rfl,hm⟩:=hm;obtain⟨t,e,ho,hi⟩:=VF hm;rw[e];refine⟨_,I,E6,λS=>?_⟩;have X8:=S.bx 0;refine è S 0 (off:=0) (cs:=t.cells) I (λu C7 S=>?_);have Fs9:=TI.dG (⟨ho,hi⟩:TI _ t) C7 X8;refine ă S 0 I (v:=t.v) (λS=>?_);exact⟨t,I,Fs9,S.E⟩
end
section
open Go.RowKit Go.ChangeShapes Go.WideShapes Go.Sx
variable{α:Type}
theorem TR{β γ:Type}{f:β->Option γ}:∀{l:List β} {cs:List γ},l.mapM f=some cs->cs.length=l.length∧∀(j:Nat) (x:β),l[j]?=some x->f x=cs[j]?
 | [],cs,h=>by
  simp at h; subst h; exact⟨I,λj x h=>by simp at h⟩
 | a::l,cs,h=>by
  simp only[List.mapM_cons,Option.bind_eq_bind,Option.bind_eq_some_iff,Option.pure_def,Ò]at h
  obtain⟨y,hy,ys,hys,rfl⟩:=h
  obtain⟨h1,h2⟩:=TR hys
  refine⟨by simp[h1],λj x hj=>?_⟩
  cases j with
  | zero=>simp only[List.getElem?_cons_zero,Ò]at hj; subst hj; simpa using hy
  | succ j=>simpa using h2 j x (by simpa using hj)
abbrev ahY{w:Á}{a:Addr}{k:Nat}{cs:List À}(h:w.cells? 0 a k=some cs):cs.length=k∧∀j,j<k->w.cell? (a.add j)=cs[j]?:=by
 simp only[World.cells?,Õ,if_true]at h;obtain⟨h1,h2⟩:=TR h;exact⟨by simpa using h1,λj hj=>h2 j j (by simp[hj])⟩
abbrev JE{f:α->À}{w:Á}{v:À}{l:List α}(h:aI 1 (λx=>[f x]) w v l):dJ f w v l:=by
 obtain⟨a,cap,hv,hm,h⟩:=h;refine⟨a,cap,hv,hm,?_⟩;rcases h with h | ⟨b,o,ha,hlt,hl,hc⟩
 .exact .inl h
 exact .inr ⟨b,o,ha,hlt,hl,λi hi=>by simpa using hc i hi 0 Z⟩
section
variable{H:Type}{enc:á×À->H}{P:Program}{W:Á}{sp:Nat->Bool}{held:Bool}{n:Nat}{cs:List À}{y:DataW H×List MemPlace}
abbrev anX{e:á}{k:IntKind}(he:P.underlying e=some (.int k))(h:DataW.trod enc P W 0 sp held n e cs=some y):∃x,cs=[.int k x]∧(Lit.int k x).wf=true:=by
 cases n with
 | zero=>simp[DataW.trod]at h
 | succ n =>
  simp only[DataW.trod,he]at h;split at h<;>simp_all
abbrev afe{e:á}(he:P.underlying e=some .bool)(h:DataW.trod enc P W 0 sp held n e cs=some y):∃b,cs=[.b b]:=by
 cases n with
 | zero=>simp[DataW.trod]at h
 | succ n =>
  simp only[DataW.trod,he]at h;split at h<;>simp_all
end
section
variable{H:Type}{enc:á×À->H}{W:Á}{sp:Nat->Bool}{held:Bool}{n:Nat}{cs:List À}{y:DataW H×List MemPlace}
end
abbrev acg{W:Á}(h2:handlesMet prog [("errors.errorType",YtodpgjjgaddkeaaGreatDoor.Rows.laid_errors_errorType)] W):bZ W:=by
 have h3:=h2 _ (Ā.2 I);obtain⟨name,u,ty,e1,e2,hlt,hrow,hvar⟩:∃name u ty,YtodpgjjgaddkeaaGreatDoor.Rows.laid_errors_errorType.handleName?=some name∧(prog.cutTypes.find? (·.1 == "internal/reflectlite.rtype")).map (·.2)=some u∧ty<prog.types.size∧prog.rowNamed ty name=true ∧
  W.var? prog "errors.errorType" = some #[.iface u (.agg #[typeHandle prog ty])]:=h3
 have hu:u=296:=Ü (e2.symm.trans X);have hn:name=[101,114,114,111,114]:=Ü (e1.symm.trans X);have hall:((List.range prog.types.size).all λt => !prog.rowNamed t [101,114,114,111,114]||t==210)=true:=by kernel_rfl
 rw[ø]at hall;have h4:=hall ty (aym.2 hlt);rw[hn]at hrow;rw[hrow]at h4;have ht:ty=210:=by simpa using h4
 subst hu ht;unfold World.var? at hvar;rw[show prog.globalNamed "errors.errorType" = some 0 by kernel_rfl,Ο]at hvar;cases hh:W.heap[(0 : Nat)]? with
 | none=>rw[hh]at hvar; cases hvar
 | some o =>
  rw[hh]at hvar;have hlt2:0 < W.heap.size:=(Array.getElem?_eq_some_iff.1 hh).1;cases o with
  | cells c t fz =>
   simp only[Ò]at hvar;refine⟨hlt2,λj v hj=>?_⟩;have:j=0:=by
    have:=(List.getElem?_eq_some_iff.1 hj).1;simp at this; exact this
   subst this;simp only[World.cell?,hh];rw[hvar];simpa[typeHandle]using hj
  | _=>cases hvar
end
section
open Go.RowKit Go.Sx
variable{α:Type}{K:Nat}
abbrev TI.fit{w:Á}{t:aT}(h:TI w t)(hK:1<=K):t.fit K:=by
 obtain⟨h1,h2,h3,h4,h5,h6⟩:=h.2.fit alr;exact⟨h1.mono hK,h2.mono hK,h3.mono hK,h4.mono hK,h5.mono hK,h6.mono hK⟩
abbrev TQ.ok{w:Á}{id kind:Int}{nd:ah}(h:TQ w id kind nd)(hi:I64 id)(hK:1<=K)(hK2:K<=10000):dY K w nd:=by
 rcases h with ⟨-,t,ht,rfl⟩ | ⟨-,t,ht,rfl⟩ | ⟨-,t,b,ht,hb,rfl⟩ | ⟨-,rfl⟩
 .exact⟨⟨hi,(show I64 1 by decide),gW,ht.1,pR w,gW,(show I64 1 by decide),pR w,gW,lG w,aY.jr w,lG w,dA.jr w,gW⟩,ht.fit hK,λp hp=>(by cases hp),λp hp=>(by cases hp),hK,hK2⟩
 .exact abq hi ht.1 (ht.fit (Ó 1)) hK hK2
 .refine⟨⟨hi,(show I64 3 by decide),gW,ht.1,pR w,gW,gW,pR w,gW,lG w,aY.jr w,lG w,⟨(show I64 1 by decide),(show I64 1 by decide),?_⟩,(show I64 1 by decide)⟩,ht.fit hK,λp hp=>(by cases hp),λp hp=>(by cases hp),hK,hK2⟩;refine⟨some ⟨b,0,none⟩,1,I,by decide,.inr ⟨b,0,I,hb.1,Ó _,λi hi j hj=>?_⟩⟩;obtain rfl:i=0:=by simp[afd]at hi; exact hi
  have:=hb.2.1 j;rw[show 0+0*4+j=j by omega,this];show _=(bQ.cells anW)[j]?;rw[<-List.getElem?_toArray];rfl
 exact lT w hK hK2
abbrev TQ.check{w:Á}{id kind:Int}{nd:ah}(h:TQ w id kind nd):(nd.checkN==0)=((((decide (1<=id))&&(decide (id<=1073741824)))&&(decide (1<=kind)))&&(decide (kind<=3))):=by
 have hv:qI.valid=true:=by decide
 have hd:pW qI.wE q0=false:=by decide
 have key:∀(n:ah),n.gZ=[(false,2),((((decide (id<1))||(decide (1073741824<id)))||false)||false,6),(!n.t.q.valid,5),(pW n.t.q.wE q0,9),(false,10),(false,17)]->n.t.q=qI->n.sZ=0->(n.checkN==0)=((decide (1<=id))&&(decide (id<=1073741824))):=by
  intro n hL hq ho;unfold ah.checkN;rw[hL,hq,hv,hd,ho];rw[ĩ];by_cases h1:id<1
  .simp[badL,kM,h1]; omega
  by_cases h2:1073741824<id
  .simp[badL,kM,h2];try omega
  simp[badL,kM,h1,h2]; omega
 rcases h with ⟨rfl,t,ht,rfl⟩ | ⟨rfl,t,ht,rfl⟩ | ⟨rfl,t,b,ht,-,rfl⟩ | ⟨⟨k1,k2,k3⟩,rfl⟩
 .rw[key _ I (ht.2.q JF) I]; simp
 .rw[key _ I (ht.2.q JF) I]; simp
 .rw[key _ I (ht.2.q JF) I]; simp
 rw[PD];symm;rw[ĩ];simp only[æ,Ý,Û];omega
variable{w:Á}{l:List ah}{i j:Nat}{s:aA}{id:Int}{a:ah}
abbrev uI{f:FuncId}{args:Array À}{v v':À}(h:Ä prog f args w (RF w v))(hv:v=v'):Ä prog f args w (RF w v'):=hv▸h
abbrev Bl(h:j+1<=9223372036854775807):Value.i (IntKind.i64.wrap (((j+1:Nat):Int)-1)) = .i j:=by
 have:IntKind.i64.wrap (((j+1:Nat):Int)-1)=(j:Int):=by rw[Ř]; omega
 rw[this]
abbrev Fb{p x:ah}(hj:j<l.length)(hp:l[j]=p):rV ((keys l).take (j+1)) x.key=((((p.kind)==1)&&((x.depth)==(p.depth+1)))||decide (x.depth<=p.depth)):=by
 unfold rV;rw[ı (by simpa using hj),List.getLast?_concat,List.getElem_map,hp];rfl
abbrev JG:decide (0<=jQ (keys l) id)=(keys l).any λκ=>κ.id==id:=by
 unfold jQ;cases h:jD (keys l) id with
 | none =>
  have h2:=Iq.1 h;rw[show(decide ((0:Int) <= -1))=false from rfl];symm;rw[List.any_eq_false];intro x hx;simpa using h2 x hx
 | some i =>
  obtain⟨hi,h3⟩:=vC h;rw[show(decide ((0:Int)<=(i:Int)))=true by simp];symm;rw[ay9];exact⟨_,þ hi,by simpa using h3⟩
abbrev ahZ{b:ah}(h:dY K w a)(h':dY K w b):Ä prog 37 #[a.v,b.v] w (RF w (.b (a.key=b.key))):=by
 rw[<-ag7 h.nrm h'.nrm]; exact Om h h'
abbrev aff(h:dY K w a):Ä prog 108 #[a.v] w (RF w (.i a.checkN)):=by
 rw[<-VT]; exact Oh h
abbrev abr{a:Option Addr}{L:List ah}{c:Nat}(h:aI 47 ah.cells w (.s a L.length c) L)(hi:i<=L.length):aI 47 ah.cells w (.s (sO a 0 c 47) i c) (L.take i):=by
 have:=oP h (Õ i) hi (ï hi (jo h)) (Ó c);simpa using this
structure abt (l:List ah) (k:Nat):Prop where
 at':uo l k (xk ((keys l).take k))
 ok:∀(j:Nat) (hj:j<l.length),j<k->l[j].checkN=0
abbrev abt.next{l:List ah}{k:Nat}{x:ah}(h:abt l k)(hk:k<l.length)(hx:l[k]=x)(hw:gX ((keys l).take k) x.key=0):abt l (k+1):=by
 refine⟨h.at'.next hk hx hw ?_,λj hj hjk=>?_⟩
 .rw[ı (by simpa using hk),Iz,D5 hk hx]; rfl
 by_cases e:j=k
 .subst e;rw[hx,<-qm];exact(xq.1 hw).1
 exact h.ok j hj Z
abbrev abt.dep{l:List ah}{k:Nat}(h:abt l k):∀(j:Nat) (hj:j<l.length),j<k->0<=l[j].depth∧l[j].depth<8:=λj hj hjk=>by
 have:=qo (h.ok j hj hjk);omega
abbrev Xt{v:À}(h:aI 47 ah.cells w v l) :
  Ä prog 109 #[v,.i id] w (RF w (.i (jQ (keys l) id))):=by
 obtain⟨a,cap,rfl⟩:=h.shape;have hmax:l.length<=9223372036854775807:=h.len;refine Ë func109 ntmps109 λS=>ĕ S (ι:=Nat) (λp a' w'=>p<=l.length∧(∀(j:Nat) (hj:j<l.length),j<p->l[j].id≠id)∧Sx.St w a' w' 20 [(0,.s a l.length cap),(1,.i id),(4,.i 0),(5,.i p)] [] []) (λp=>l.length-p) (0) (λS=>⟨Õ _,λj hj h=>by omega,S.oK⟩) ?_;rintro k ac u ig fC hI;try dsimp only at hI
 obtain⟨hk,hR,S⟩:=hI;refine Ė S λS=>È S (decide ((k:Int)<(l.length:Int))) (λhc6 S=>?_) (λhc6 S=>?_)
 .have ku:k<l.length:=by have:=å hc6; omega
  obtain⟨b9,o10,rfl,x15,pJ,hb16,Ih⟩:=û h (λ_=>I) (k) ku;have S:=S.view0 hb16 Ih;refine Å S 7 [] [.idx k l.length,.M 0 0] (hk:=⟨ku,G⟩) λS=>È S ((x15.id)==id) (λhc17 S=>?_) (λhc17 S=>?_)
  .refine Æ S (.i k) (λS=>?_);exact⟨by rw[RN ku (by rw[pJ]; simpa using hc17) hR],S.E⟩
  refine Å S 3 [] [.re 11 (.i (IntKind.i64.wrap ((k:Int)+1))) (.i (k+1:Nat))] (hk:=⟨ą Z,G⟩) λS=>ė S ig (λS=>?_);exact fC _ _ (k+1) ⟨Z,(MC ku hR (by rw[pJ]; simpa using hc17)),S.oK⟩ (by show _-_<_-_; omega)
 refine Æ S (.i (-1)) (λS=>?_);have hk:=ñ hc6;exact⟨by rw[IC (λj hj=>hR j hj Z)],S.E⟩
abbrev PE{v:À}(h:aI 47 ah.cells w v l)(hi:i<l.length)(hd:∀(j:Nat) (hj:j<l.length),j<i->0<=l[j].depth∧l[j].depth<8){q:Int}(hz:q=(i:Int)) :
  Ä prog 110 #[v,.i q] w (RF w (.b (rV ((keys l).take i) l[i].key))):=by
 subst hz;obtain⟨a,cap,rfl⟩:=h.shape;have hmax:l.length<=9223372036854775807:=h.len;refine Ë func110 ntmps110 λS=>È S (((i:Int))==0) (λhc4 S=>?_) (λhc4 S=>?_)
 .obtain rfl:i=0:=by simpa using hc4
  have anY:0<l.length:=Z
  obtain⟨b6,o7,rfl,x12,aqO,Z8,hr9⟩:=û h (λ_=>I) (0) anY;have S:=S.view0 Z8 hr9;refine Å S 7 [] [.idx 0 l.length,.M 0 2] (hk:=⟨anY,G⟩) λS=>Æ S (.b ((x12.depth)==0)) (λS=>?_);exact⟨by rw[aqO]; rfl,S.E⟩
 obtain⟨j,rfl⟩:∃j,i=j+1:=⟨i-1,by have:=hc4; simp at this; omega⟩;have abu:j<l.length:=Z
 obtain⟨b17,o18,rfl,x23,als,Xu,aqP⟩:=û h (λ_=>I) (j) abu;have hd0:0<=x23.depth∧x23.depth<8:=als▸hd j Z Z;have S:=S.view0 Xu aqP;have alu:(j+1)<l.length:=Z
 obtain⟨x31,hx29,Q8,anZ⟩:=Vp.ahP h (λ_=>I) ((j+1)) alu;have S:=S.view0 Q8 anZ;refine Ą S 22 [.re 15 (.i (IntKind.i64.wrap (((j+1:Nat):Int)-1))) (.i j),.idx j l.length,.M 1 1,.idx (j+1) l.length,.M 0 2,.re 28 (.i (IntKind.i64.wrap (((j+1:Nat):Int)-1))) (.i j),.idx j l.length,.M 1 2,Sx.kw 32 (x23.depth+1)] [] [(34,.b (((x23.kind)==1)&&((x31.depth)==(x23.depth+1))))] trivial (hk:=⟨(Bl Z),abu,alu,(Bl Z),abu,adC Z,G⟩) λu LU S=>È S (((x23.kind)==1)&&((x31.depth)==(x23.depth+1))) (λuH S=>?_) (λuH S=>?_)
 .refine Æ S (.b true) (λS=>?_);exact⟨by rw[hx29,Fb abu als,uH]; rfl,S.E⟩
 refine Ą S 12 [.idx (j+1) l.length,.M 0 2,.re 42 (.i (IntKind.i64.wrap (((j+1:Nat):Int)-1))) (.i j),.idx j l.length,.M 1 2] [] [(46,.b (x31.depth<=x23.depth))] trivial (hk:=⟨alu,(Bl Z),abu,G⟩) λu Q9 S=>Æ S (.b (x31.depth<=x23.depth)) (λS=>?_);exact⟨by rw[hx29,Fb abu als,uH,ayT],S.E⟩
abbrev TS{v:À}(h:yL K w v l)(hi:i<l.length)(hd:∀(j:Nat) (hj:j<l.length),j<i->0<=l[j].depth∧l[j].depth<8){q:Int}(hz:q=(i:Int)) :
  Ä prog 70 #[v,.i q] w (RF w (.i (gX ((keys l).take i) l[i].key))):=by
 subst hz;obtain⟨a,cap,rfl⟩:=h.1.shape;have hmax:l.length<=9223372036854775807:=h.1.len;have hlc:=jo h.1;refine Ë func70 ntmps70 (λS=>?_);have lt9:i<l.length:=hi;obtain⟨b4,o5,rfl,x10,Ű,OJ,hr7⟩:=û h.1 (λ_=>I) (i) lt9;have S:=S.view0 OJ hr7;refine Å S 5 [] [.idx i l.length,.M 0 0] (hk:=⟨lt9,G⟩) λS=>Þ S (aff ((h.2 _ (Ű▸þ lt9)).below S.E)) λu uM S=>È S ((x10.checkN) != 0) (λoh S=>?_) (λoh S=>?_)
 .refine Æ S (.i x10.checkN) (λS=>?_);exact⟨by rw[Ű,IG (by simpa using oh)],S.E⟩
 refine Ą S 10 [.slc 0 i cap cap,.idx i l.length,.M 0 0] [(_,_,true,.i (jQ (keys (l.take i)) x10.id))] [(23,.b (0<=(jQ (keys (l.take i)) x10.id)))] ⟨λu hC g=>Xt (id:=x10.id) ((abr h.1 (ϙ hi)).below (Ã S.E hC)),G⟩ (hk:=⟨⟨Õ _,Z,Ó _⟩,lt9,G⟩) λu BG S=>È S (decide (0<=(jQ (keys (l.take i)) x10.id))) (λhc19 S=>?_) (λhc19 S=>?_)
 .have hc0:x10.checkN=0:=by simpa using oh
  have hfa:=JG (l:=l.take i) (id:=x10.id);rw[show keys (l.take i)=(keys l).take i from ayW ..]at hfa;have hq1:=hc19;rw[show keys (l.take i)=(keys l).take i from ayW ..,hfa]at hq1;refine Æ S (.i 7) (λS=>?_);exact⟨by rw[Ű,MF hc0 hq1],S.E⟩
 refine Þ S (uI (PE (h.1.below S.E) hi hd I) (show Value.b (rV ((keys l).take i) l[i].key) = .b (rV ((keys l).take i) x10.key) by rw[Ű])) λu Qv S=>È S (!(rV ((keys l).take i) x10.key)) (λhc24 S=>?_) (λhc24 S=>?_)
 .have hc0:x10.checkN=0:=by simpa using oh
  have hfa:=JG (l:=l.take i) (id:=x10.id);rw[show keys (l.take i)=(keys l).take i from ayW ..]at hfa;have hq1:=hc19;rw[show keys (l.take i)=(keys l).take i from ayW ..,hfa]at hq1;have hst:=IB (pre:=(keys l).take i) (x:=x10.key) (by rw[qm]; exact hc0);refine Æ S (.i 17) (λS=>?_);exact⟨by rw[Ű,ER hc0 hq1 (by have:=hc24; rw[hst]at this; simp at this; exact this)],S.E⟩
 have hc0:x10.checkN=0:=by simpa using oh
 have hfa:=JG (l:=l.take i) (id:=x10.id);rw[show keys (l.take i)=(keys l).take i from ayW ..]at hfa;have hq1:=hc19;rw[show keys (l.take i)=(keys l).take i from ayW ..,hfa]at hq1;have hst:=IB (pre:=(keys l).take i) (x:=x10.key) (by rw[qm]; exact hc0);refine Æ S (.i 0) (λS=>?_);exact⟨by rw[Ű,II hc0 hq1 (by have:=hc24; rw[hst]at this; simp at this; exact this)],S.E⟩
abbrev TU(h:bM K w s) :
  Ä prog 41 #[s.v] w (RF w (.tuple #[.i s.key.chk.1,.i s.key.chk.2])):=by
 have hmax:s.ns.length<=9223372036854775807:=h.2.2.1.len;refine Ë func41 ntmps41 λS=>Í S λu b2 E3 hb4 S=>Å S 20 [] [.M 0 0,.M 0 0,.M 0 1,.M 0 1] λS=>È S ((((decide (s.w<1))||(decide (256<s.w)))||(decide (s.h<1)))||(decide (256<s.h))) (λkP S=>?_) (λkP S=>?_)
 .refine Gt S (.i 6) (.i 0) (λS=>?_);exact⟨by rw[RP (s:=s.key) kP],S.E⟩
 refine Å S 4 [] [.M 0 6] λS=>È S (decide (64<(s.ns.length:Int))) (λfV S=>?_) (λfV S=>?_)
 .have hq:=nM (s:=s.key) kP;rw[show s.key.ns=keys s.ns from rfl,Ģ]at hq;refine Gt S (.i 5) (.i 64) (λS=>?_);exact⟨by rw[hq,Ï (by have:=å fV; omega)],S.E⟩
 refine ĕ S (ι:=Nat) (λp a' w'=>p<=s.ns.length∧(abt s.ns p)∧Sx.St w a' w' 43 [(0,s.v),(1,.q b2 0),(2,.i 0),(3,.i 0),(4,.i p)] [(b2,s.cells)] []) (λp=>s.ns.length-p) (0) (λS=>⟨Õ _,⟨K08 _,λj hj h=>by omega⟩,S.oK⟩) ?_;rintro k ac u ig fC hI;try dsimp only at hI
 obtain⟨hk,hR,S⟩:=hI;refine Ė S λS=>Å S 5 [] [.M 0 6] λS=>È S (decide ((k:Int)<(s.ns.length:Int))) (λhc17 S=>?_) (λhc17 S=>?_)
 .have hk1:k<s.ns.length:=by have:=å hc17; omega
  obtain⟨x,hx⟩:∃z,s.ns[k]=z:=⟨_,I⟩;refine Å S 3 [] [.M 0 6] λS=>Þ S (uI (TS (h.2.2.below S.E) hk1 hR.dep I) (show Value.i (gX ((keys s.ns).take k) s.ns[k].key) = .i (gX ((keys s.ns).take k) x.key) by rw[hx])) λu DK S=>È S (((gX ((keys s.ns).take k) x.key)) != 0) (λhc22 S=>?_) (λhc22 S=>?_)
  .have hq:=nM (s:=s.key) kP;rw[show s.key.ns=keys s.ns from rfl,Ģ]at hq;refine Gt S (.i (gX ((keys s.ns).take k) x.key)) (.i k) (λS=>?_);rw[É (by have:=ñ fV; omega)]at hq;exact⟨by rw[hq,hR.at'.bad hk1 hx I (by simpa using hc22)],S.E⟩
  refine Å S 3 [] [.re 34 (.i (IntKind.i64.wrap ((k:Int)+1))) (.i (k+1:Nat))] (hk:=⟨ą Z,G⟩) λS=>ė S ig (λS=>?_);exact fC _ _ (k+1) ⟨Z,hR.next hk1 hx (by simpa using hc22),S.oK⟩ (by show _-_<_-_; omega)
 have hq:=nM (s:=s.key) kP;rw[show s.key.ns=keys s.ns from rfl,Ģ]at hq;refine Gt S (.i 0) (.i 0) (λS=>?_);rw[É (by have:=ñ fV; omega)]at hq;exact⟨by rw[hq,hR.at'.done (by have:=ñ hc17; omega)],S.E⟩
abbrev TV(h:bM K w s) :
  Ä prog 22 #[s.v] w (RF w (.b s.key.valid)):=by
 skip;refine Ë func22 ntmps22 λS=>Í S λu b2 E3 hb4 S=>Å S 2 [] [.M 0 0] λS=>Þ S (TU (h.below S.E)) λu E6 S=>Æ S (.b ((s.key.chk.1)==0)) (λS=>?_);exact⟨I,S.E⟩
abbrev Fe{t:aA}(h:bM K w s)(h':bM K w t) :
  Ä prog 16 #[s.v,t.v] w (RF w (.b (s.key=t.key))):=by
 have hmax:s.ns.length<=9223372036854775807:=h.2.2.1.len;refine Ë func16 ntmps16 (λS=>?_);obtain⟨a,cap,es⟩:∃a c,s.s = .s a s.ns.length c:=⟨_,_,I⟩;have hr:=h.2.2.1;rw[es]at hr;obtain⟨d,cap',et⟩:∃a c,t.s = .s a t.ns.length c:=⟨_,_,I⟩;have hr':=h'.2.2.1;rw[et]at hr';refine Í S λu b2 E3 hb4 S=>Í S λu b5 E6 hb7 S=>Å S 29 [] [.M 1 0,.M 0 0,.M 1 1,.M 0 1,.M 1 2,.M 0 2,.cmp .neq 40 (.tmp 20) (.tmp 22) (.agg #[.u (s.bg.r.toNat:Int),.u (s.bg.g.toNat:Int),.u (s.bg.b.toNat:Int),.u (s.bg.a.toNat:Int)]) (.agg #[.u (t.bg.r.toNat:Int),.u (t.bg.g.toNat:Int),.u (t.bg.b.toNat:Int),.u (t.bg.a.toNat:Int)]) (.b (!decide (s.bg=t.bg))),.M 1 6,.re 27 s.s (.s a s.ns.length cap),.M 0 6,.re 30 t.s (.s d t.ns.length cap')] (hk:=⟨(ħ (λ_=>akb s.bg t.bg _) X),es,et,G⟩) λS=>È S (((((s.w) != t.w)||((s.h) != t.h))||(!decide (s.bg=t.bg)))||(((s.ns.length:Int)) != (t.ns.length:Int))) (λdZ S=>?_) (λdZ S=>?_)
 .refine Æ S (.z) (λS=>?_);exact⟨aC (am2 dZ),S.E⟩
 refine ĕ S (ι:=Nat) (λp a' w'=>p<=s.ns.length∧((keys s.ns).take p=(keys t.ns).take p)∧Sx.St w a' w' 53 [(0,s.v),(1,t.v),(2,.q b2 0),(3,.q b5 0),(4,.z),(5,.i p)] [(b5,t.cells),(b2,s.cells)] []) (λp=>s.ns.length-p) (0) (λS=>⟨Õ _,I,S.oK⟩) ?_;rintro k ac u ig fC hI;try dsimp only at hI
 obtain⟨hk,hR,S⟩:=hI;refine Ė S λS=>Å S 5 [] [.M 1 6,.re 36 s.s (.s a s.ns.length cap)] (hk:=⟨es,G⟩) λS=>È S (decide ((k:Int)<(s.ns.length:Int))) (λhc16 S=>?_) (λhc16 S=>?_)
 .have AL:k<s.ns.length:=by have:=å hc16; omega
  obtain⟨b20,o21,rfl,zV,hx24,Oj,adl⟩:=û hr (λ_=>I) (k) AL;have S:=S.view0 Oj adl;have AO:k<t.ns.length:=by have:=adE dZ; have:=å hc16; omega
  obtain⟨b28,o29,rfl,y34,hx32,adn,ado⟩:=û hr' (λ_=>I) (k) AO;have S:=S.view0 adn ado;refine Ą S 12 [.M 1 6,.re 42 s.s (.s (some ⟨b20,o21,none⟩) s.ns.length cap),.idx k s.ns.length,.M 3 0,.M 0 6,.re 47 t.s (.s (some ⟨b28,o29,none⟩) t.ns.length cap'),.idx k t.ns.length,.M 2 0] [(_,_,true,.b (zV.key=y34.key))] [(52,.b (!(decide (zV.key=y34.key))))] ⟨λu hC g=>ahZ ((h.2.2.2 _ (hx24▸þ AL)).below (Ã S.E hC)) ((h'.2.2.2 _ (hx32▸þ AO)).below (Ã S.E hC)),G⟩ (hk:=⟨es,AL,et,AO,G⟩) λu KN S=>È S (!(decide (zV.key=y34.key))) (λvk S=>?_) (λvk S=>?_)
  .refine Æ S (.z) (λS=>?_);exact⟨aC (ai2 dZ (am1 AL AO hx24 hx32 vk)),S.E⟩
  refine Å S 3 [] [.re 40 (.i (IntKind.i64.wrap ((k:Int)+1))) (.i (k+1:Nat))] (hk:=⟨ą Z,G⟩) λS=>ė S ig (λS=>?_);exact fC _ _ (k+1) ⟨Z,(ag8 AL AO hR hx24 hx32 vk),S.oK⟩ (by show _-_<_-_; omega)
 refine Æ S (.b true) (λS=>?_);exact⟨aC (ai2 dZ (akc (by have:=ñ hc16; omega) (adE dZ) hR)),S.E⟩
end
section
open Go.RowKit Go.ChangeShapes Go.WideShapes Go.Sx
variable{α:Type}
section
variable{H:Type}{enc:á×À->H}{W:Á}{sp:Nat->Bool}{held:Bool}{n:Nat}{cs:List À}{y:DataW H×List MemPlace}
def aA.ok(W:Á)(s:aA):Prop:=I64 s.w∧I64 s.h∧aI 47 ah.cells W s.s s.ns∧∀n∈s.ns,n.ok W
def aP.ok(W:Á)(e:aP):Prop:=I64 e.kind∧I64 e.id∧I64 e.index∧I64 e.depth∧e.node.ok W
end
end
section
open Go.RowKit Go.Sx
variable{α:Type}{K:Nat}
abbrev K13{t:aT}(h:t.lt=true):t.fit 20:=by
 unfold aT.lt at h;obtain⟨h0,h⟩:=yQ h;obtain⟨h1,h⟩:=yQ h;obtain⟨h2,h⟩:=yQ h;obtain⟨h3,h⟩:=yQ h;obtain⟨h4,h⟩:=yQ h;obtain⟨h5,h⟩:=yQ h;exact⟨Ep h0,Ep h1,Ep h2,Ep h3,Ep h4,Ep h5⟩
abbrev aj.Dn{p:aj}(h:p.lt=true):p.t.fit 20∧p.lim:=by
 unfold aj.lt at h;simp only[ś,Ĕ,Ő,ð]at h;have:=K13 h.1.1;exact⟨this,Z,Z,Zj this⟩
abbrev ah.Dn{w:Á}{n:ah}(h:n.lt=true)(ho:n.ok w):dY 20 w n∧n.lim:=by
 unfold ah.lt ah.lt0 at h;simp only[æ,ś,Ĕ,Ő,ð,ø,đ]at h;obtain⟨⟨⟨⟨⟨⟨⟨h1,h2⟩,h3⟩,h4⟩,h5⟩,h6⟩,h7⟩,h8⟩:=h;have ht:=K13 h5;exact⟨⟨ho,ht,λp hp=>(aj.Dn (h8 p (.inl hp))).1,λp hp=>(aj.Dn (h8 p (.inr hp))).1,by decide,by decide⟩,Zj ht,Z,Z,Z,λp hp=>(aj.Dn (h8 p (.inl hp))).2,Z,Z,λp hp=>(aj.Dn (h8 p (.inr hp))).2,Z⟩
abbrev K11{w:Á}{s:aA}(h:s.light=true)(ho:s.ok w)(hl:s.ns.length<=64):bM 20 w s∧∀n∈s.ns,n.lim:=by
 unfold aA.light at h;simp only[æ,ø]at h;rw[Ĝ Z]at h;exact⟨⟨ho.1,ho.2.1,ho.2.2.1,λn hn=>(ah.Dn (h.2 n hn) (ho.2.2.2 n hn)).1⟩,λn hn=>(ah.Dn (h.2 n hn) (ho.2.2.2 n hn)).2⟩
variable{s:aA}{w:Á}{lv:À}
abbrev Xv{l:List iV}(h:vJ s l=true):s.light=true∧l.length<=24∧∀x∈l,x.e.node.lt=true:=by
 unfold vJ at h;simp only[æ,Ý]at h;refine⟨h.2.1,h.2.2,λx hx=>?_⟩;have:=h.1;rw[Ĝ Z]at this;exact ø.1 this x hx
def iV.ok(W:Á)(x:iV):Prop:=I64 x.d∧x.e.ok W
abbrev step_ok{x:iV}(h:x.e.node.lt=true)(ho:x.ok w):jd 20 w x.e∧x.e.node.lim:=
 ⟨⟨ho.2.1,ho.2.2.1,ho.2.2.2.1,ho.2.2.2.2.1,(ah.Dn h ho.2.2.2.2.2).1⟩,(ah.Dn h ho.2.2.2.2.2).2⟩
abbrev afh(h:64<s.ns.length):s.key.valid=false:=by
 cases hv:s.key.valid with
 | false=>rfl
 | true=>have:=Di hv; omega
abbrev afi(hl:64<s.ns.length) :
  Ä prog 83 #[s.v] w λr w'=>∃c i:Int,(c==0)=false∧r = .R (.tuple #[.i c,.i i])∧Ext w w':=by
 skip;refine Ë func83 ntmps83 (λS=>?_);obtain⟨a,cap,es⟩:∃a c,s.s = .s a s.ns.length c:=⟨_,_,I⟩;refine Í S λu b2 E3 hb4 S=>Å S 20 [] [.M 0 0,.M 0 0,.M 0 1,.M 0 1] λS=>È S ((((decide (s.w<1))||(decide (256<s.w)))||(decide (s.h<1)))||(decide (256<s.h))) (λkP S=>?_) (λkP S=>?_)
 .refine Gt S (.i 6) (.i 0) (λS=>?_);exact⟨6,0,O,I,S.E⟩
 refine Å S 4 [] [.M 0 6,.re 28 s.s (.s a s.ns.length cap),.re 30 (.b ((64:Int)<(s.ns.length:Int))) (.b true)] (hk:=⟨es,(Ñ Value.b (İ Z)),G⟩) λS=>â S λS=>Gt S (.i 5) (.i 64) (λS=>?_);exact⟨5,64,O,I,S.E⟩
abbrev afj(hl:64<s.ns.length) :
  Ä prog 51 #[s.v] w (RF w (.z)):=by
 skip;refine Ë func51 ntmps51 λS=>Í S λu b2 E3 hb4 S=>Å S 2 [] [.M 0 0] λS=>î S (afi hl) ?_;rintro e u ⟨c,i,hc,rfl,E6⟩;refine⟨_,I,E6,λS=>?_⟩;refine Å S 8 [] [.re 11 (.b (c==0)) (.z)] (hk:=⟨(Ñ Value.b hc),G⟩) λS=>Æ S (.z) (λS=>?_);exact⟨I,S.E⟩
abbrev afk(hl:64<s.ns.length) :
  Ä prog 41 #[s.v] w λr w'=>∃c i:Int,(c==0)=false∧r = .R (.tuple #[.i c,.i i])∧Ext w w':=by
 skip;refine Ë func41 ntmps41 (λS=>?_);obtain⟨a,cap,es⟩:∃a c,s.s = .s a s.ns.length c:=⟨_,_,I⟩;refine Í S λu b2 E3 hb4 S=>Å S 20 [] [.M 0 0,.M 0 0,.M 0 1,.M 0 1] λS=>È S ((((decide (s.w<1))||(decide (256<s.w)))||(decide (s.h<1)))||(decide (256<s.h))) (λkP S=>?_) (λkP S=>?_)
 .refine Gt S (.i 6) (.i 0) (λS=>?_);exact⟨6,0,O,I,S.E⟩
 refine Å S 4 [] [.M 0 6,.re 25 s.s (.s a s.ns.length cap),.re 27 (.b ((64:Int)<(s.ns.length:Int))) (.b true)] (hk:=⟨es,(Ñ Value.b (İ Z)),G⟩) λS=>â S λS=>Gt S (.i 5) (.i 64) (λS=>?_);exact⟨5,64,O,I,S.E⟩
abbrev afl(hl:64<s.ns.length) :
  Ä prog 22 #[s.v] w (RF w (.z)):=by
 skip;refine Ë func22 ntmps22 λS=>Í S λu b2 E3 hb4 S=>Å S 2 [] [.M 0 0] λS=>î S (afk hl) ?_;rintro e u ⟨c,i,hc,rfl,E6⟩;refine⟨_,I,E6,λS=>?_⟩;refine Å S 8 [] [.re 11 (.b (c==0)) (.z)] (hk:=⟨(Ñ Value.b hc),G⟩) λS=>Æ S (.z) (λS=>?_);exact⟨I,S.E⟩
abbrev an0(hl:64<s.ns.length) :
  Ä prog 25 #[s.v] w (RF w (.tuple #[.pointer none,.i 18])):=by
 skip;refine Ë func25 ntmps25 λS=>Í S λu b2 E3 hb4 S=>Å S 3 [] [.M 0 0] λS=>Þ S (afj hl) λu E7 S=>â S λS=>Gt S ((.pointer none)) (.i 18) (λS=>?_);exact⟨I,S.E⟩
abbrev alv(hN:∀u,Ext w u->Ä prog 25 #[s.v] u (RF u (.tuple #[.pointer none,.i 18]))) :
  Ä prog 21 #[s.v,lv] w (RF w (.pointer none)):=by
 skip;refine Ë func21 ntmps21 λS=>Í S λu b2 E3 hb4 S=>Å S 2 [] [.M 0 0] λS=>Þ S (hN _ S.E) λu E6 S=>â S λS=>Æ S ((.pointer none)) (λS=>?_);exact⟨I,S.E⟩
abbrev alx(hs:s.ns.length<=64->bM 20 w s∧∀n∈s.ns,n.lim)(hg:bZ w)(hv:s.key.valid=false) :
  Ä prog 21 #[s.v,lv] w (RF w (.pointer none)):=by
 refine alv λu hE=>?_;by_cases hl:s.ns.length<=64
 .obtain⟨h1,h2⟩:=hs hl;exact ae9 (h1.below hE) (bZ.below hg hE) h2 hv
 exact an0 Z
abbrev afm(hs:s.light=true)(ho:s.ok w) :
  Ä prog 22 #[s.v] w (RF w (.b s.key.valid)):=by
 by_cases hl:s.ns.length<=64
 .exact TV (K11 hs ho hl).1
 rw[afh Z]; exact afl Z
end
section
open Go.RowKit Go.ChangeShapes Go.WideShapes Go.Sx
variable{W:Á}{t e:á}{cs:List À}
def Td(W:Á)(t:á)(cs:List À):Prop:=∃(H:Type) (enc:á×À->H) (n:Nat) (y:DataW H×List MemPlace),DataW.trod enc prog W 0 (λ_=>true) true n t cs=some y∧∀x∈y.1.weights prog t,x<=reachBytes
def TdL(W:Á):List á->List À->Prop
 | [],cs=>cs=[]
 | t::ts,cs=>∃p q,cs=p++q∧Td W t p∧TdL W ts q
noncomputable def afn:List Field->Nat->Option Nat
 | [],o=>some o
 | f::r,o=>if f.offset=o then afn r (o+prog.cellsOf f.type)else none
theorem afo{H:Type}{enc:á×À->H}{n:Nat}:∀{l:List Field} {o:Nat} {xs:List (DataW H×List MemPlace)},afn l o=some cs.length->xs.length=l.length ->
  (∀(i:Nat) (f:Field),l[i]?=some f->DataW.trod enc prog W 0 (λ_=>true) true n f.type ((cs.drop f.offset).take (prog.cellsOf f.type))=xs[i]?) ->
  (∀x∈DataW.weightsEach prog (l.map (·.type)) (xs.map (·.1)),x<=reachBytes)->TdL W (l.map (·.type)) (cs.drop o)
 | [],o,xs,h,_,_,_=>by
  simp only[afn,Ò]at h
  show cs.drop o=[]
  rw[h,List.drop_length]
 | f::r,o,[],_,h,_,_=>by cases h
 | f::r,o,y::ys,h,hl,hx,hw=>by
  simp only[afn]at h
  split at h
  .rename_i ho
   simp only[Ē,DataW.weightsEach,đ]at hw
   refine⟨(cs.drop o).take (prog.cellsOf f.type),cs.drop (o+prog.cellsOf f.type),by rw[<-Ι,ň],⟨H,enc,n,y,ho▸hx 0 f I,λx hx=>hw x (.inl hx)⟩,afo h (by simpa using hl) (λi f' hf=>hx (i+1) f' hf) λx hx=>hw x (.inr hx)⟩
  .cases h
abbrev iD{fs:Array Field}(ht:prog.underlying t=some (.struct fs))(h:Td W t cs)(ho:afn fs.toList 0=some (prog.cellsOf t):=by kernel_rfl):TdL W (fs.toList.map (·.type)) cs:=by
 obtain⟨H,enc,n,y,h,hw⟩:=h;obtain⟨xs,n',rfl,rfl,hl,hlen,hg⟩:=DataW.trod_struct ht h;simp only[DataW.weights,ht]at hw;exact afo (hl▸ho) (by simpa using hlen) (λi f hf=>hg i f (by simpa using hf)) hw
theorem afp{H:Type}{d:DataW H}:∀{l:List (DataW H)},d∈l->∀x∈d.weights prog e,x∈DataW.weightsAll prog e l
 | z::l,h,x,hx=>by
  simp only[DataW.weightsAll,đ]
  rcases ç.1 h with rfl | h
  .exact .inl hx
  .exact .inr (afp h x hx)
abbrev xZ{α:Type}(k b:Nat)(ht:prog.underlying t=some (.slice e))(f:α->List À)(ok:α->Prop)(hR:∀cs,Td W e cs->∃m,cs=f m∧ok m)(h:Td W t cs)(hk0:0<k:=by decide)(hn:prog.cellsOf e=k:=by kernel_rfl)(hb:prog.bytesOf e=b:=by kernel_rfl) :
  ∃a cap l,cs=[.s a (List.length l) cap]∧aI k f W (.s a l.length cap) l∧(∀x∈l,ok x)∧l.length*b<=140737488351232:=by
 obtain⟨H,enc,n,y,h,hw⟩:=h;rcases DataW.trod_slice ht h with ⟨rfl,_⟩ | ⟨ad,len,cap,elems,rest,n,rfl,rfl,rfl,_,hl,hm,hlen,hel,hr,_⟩
 .exact⟨none,0,[],I,iR _ _ _,(λx hx=>by cases hx),by simp⟩
 rw[hn]at hel;simp only[DataW.weights,ht,ç,đ,Ģ]at hw;obtain⟨l,hlen',hq⟩:=QD (Q:=λi m=>ok m∧∀j,j<k->W.cell? ((ad.add (i*k)).add j)=(f m)[j]?∧(f m).length=k) len λi hi=>by
  have hz:=hel i hi;rw[List.getElem?_eq_getElem Z,Option.bind_eq_some_iff]at hz;obtain⟨cs,hcs,hz⟩:=hz;obtain⟨h1,h2⟩:=ahY hcs;obtain⟨m,rfl,hm⟩:=hR cs ⟨H,enc,n,_,hz,λx hx=>hw x (.inr (.inl (afp (Ć.2 ⟨_,þ _,I⟩) x hx)))⟩;exact⟨m,hm,λj hj=>⟨h2 j hj,h1⟩⟩
 refine⟨some ad,cap,l,by rw[hlen'],⟨some ad,cap,I,Z,?_⟩,λx hx=>?_,?_⟩
 .rcases ę l.length with h0 | h0
  .left; exact⟨Ŝ h0,by simp⟩
  right;obtain⟨hc,hfl⟩:=(hq 0 h0).2 0 hk0;rw[List.getElem?_eq_getElem Z]at hc;have hz:(ad.add (0*k)).add 0=ad:=by simp[Addr.add]
  rw[hz]at hc;have hs:=cell_spot hc;refine⟨ad.block,ad.off,?_,cell_lt hc,Z,λi hi j hj=>?_⟩
  .obtain⟨b,o,s⟩:=ad; simp at hs; subst hs; rfl
  have:=((hq i hi).2 j hj).1;rw[acu hs,acu I]at this;exact this
 .obtain⟨i,hi,rfl⟩:=List.getElem_of_mem hx;exact(hq i hi).1
 have h1:=hw _ (.inl I);rw[hb,hlen,(hr I).1]at h1;have h2:len*b<=(len+(cap-len))*b:=ő b Z;have h3:l.length=len:=hlen';rw[h3];unfold reachBytes at h1;omega
abbrev aly{k:IntKind}(he:prog.underlying e=some (.int k))(h:Td W e cs):∃x,cs=[.int k x]∧(Lit.int k x).wf=true:=by
 obtain⟨H,enc,n,y,h,-⟩:=h;exact anX he h
abbrev nS(h:Td W 3 cs):∃x,cs=[.i x]∧I64 x:=by
 obtain⟨x,h1,h2⟩:=aly underlying3 h;exact⟨x,h1,bounds_i64 h2⟩
abbrev Dp(h:Td W 5 cs):∃x:UInt8,cs=[iO x]:=by
 obtain⟨x,rfl,h2⟩:=aly underlying5 h;exact(ajB h2).imp λc hc=>by rw[hc]
abbrev alz(h:Td W 119 cs):∃x:UInt32,cs=[aU x]:=by
 obtain⟨x,rfl,h2⟩:=aly underlying119 h;exact(agI h2).imp λc hc=>by rw[hc]
abbrev PG(h:Td W 4 cs):∃b,cs=[.b b]:=by
 obtain⟨H,enc,n,y,h,-⟩:=h;exact afe underlying4 h
abbrev afq(h:Td W 24 cs):∃b a k l,cs=[.b b,.s a (List.length l) k]∧aF W (.s a l.length k) l∧l.length<=35184372088832:=by
 obtain⟨_,_,rfl,h0,_,_,rfl,h1,rfl⟩:=iD underlying24 h;obtain⟨x,rfl⟩:=PG h0;obtain⟨a,k,l,rfl,r,-,z⟩:=xZ 1 4 underlying22 (λx:UInt32=>[aU x]) (λ_=>True) (λcs h=>(alz h).imp λ_ h=>⟨h,G⟩) h1;exact⟨x,a,k,l,I,JE r,Z⟩
abbrev Es(h:Td W 26 cs):∃m:bn,cs=m.cells∧m.ok W∧m.lim:=by
 obtain⟨_,_,rfl,h0,_,_,rfl,h1,rfl⟩:=iD underlying26 h;obtain⟨b0,a0,k0,l0,rfl,w0,z0⟩:=afq h0;obtain⟨b1,a1,k1,l1,rfl,w1,z1⟩:=afq h1;exact⟨⟨b0,a0,k0,l0,b1,a1,k1,l1⟩,I,⟨w0,w1⟩,z0,z1⟩
abbrev afr(h:Td W 28 cs):∃m:aT,cs=m.cells∧m.ok W∧m.lim:=by
 obtain⟨_,_,rfl,h0,_,_,rfl,h1,_,_,rfl,h2,_,_,rfl,h3,_,_,rfl,h4,_,_,rfl,h5,rfl⟩:=iD underlying28 h;obtain⟨m0,rfl,w0,z0⟩:=Es h0;obtain⟨m1,rfl,w1,z1⟩:=Es h1;obtain⟨m2,rfl,w2,z2⟩:=Es h2;obtain⟨m3,rfl,w3,z3⟩:=Es h3;obtain⟨m4,rfl,w4,z4⟩:=Es h4;obtain⟨m5,rfl,w5,z5⟩:=Es h5;exact⟨⟨m0,m1,m2,m3,m4,m5⟩,by kernel_rfl,⟨w0,w1,w2,w3,w4,w5⟩,z0,z1,z2,z3,z4,z5⟩
abbrev TW(h:Td W 130 cs):∃m:jP,cs=[.i m.x,.i m.y]∧m.ok:=by
 obtain⟨_,_,rfl,h0,_,_,rfl,h1,rfl⟩:=iD underlying130 h;obtain⟨x0,rfl,w0⟩:=nS h0;obtain⟨x1,rfl,w1⟩:=nS h1;exact⟨⟨x0,x1⟩,I,w0,w1⟩
abbrev Dq(h:Td W 40 cs):∃m:bQ,cs=m.cells:=by
 obtain⟨_,_,rfl,h0,_,_,rfl,h1,_,_,rfl,h2,_,_,rfl,h3,rfl⟩:=iD underlying40 h;obtain⟨x0,rfl⟩:=Dp h0;obtain⟨x1,rfl⟩:=Dp h1;obtain⟨x2,rfl⟩:=Dp h2;obtain⟨x3,rfl⟩:=Dp h3;exact⟨⟨x0,x1,x2,x3⟩,I⟩
abbrev afs(h:Td W 178 cs):∃m:bQ,cs=m.cells∧True:=by
 obtain⟨_,_,rfl,h0,_,_,rfl,h1,_,_,rfl,h2,_,_,rfl,h3,rfl⟩:=iD underlying178 h;obtain⟨x0,rfl⟩:=Dp h0;obtain⟨x1,rfl⟩:=Dp h1;obtain⟨x2,rfl⟩:=Dp h2;obtain⟨x3,rfl⟩:=Dp h3;exact⟨⟨x0,x1,x2,x3⟩,I,G⟩
abbrev ah0(h:Td W 202 cs):∃m:fH,cs=m.cells∧m.ok:=by
 obtain⟨_,_,rfl,h0,_,_,rfl,h1,rfl⟩:=iD underlying202 h;obtain⟨x0,rfl,w0⟩:=nS h0;obtain⟨m1,rfl⟩:=Dq h1;exact⟨⟨x0,m1⟩,I,w0⟩
abbrev alA(h:Td W 163 cs):∃m:dQ,cs=m.cells∧m.ok:=by
 obtain⟨_,_,rfl,h0,_,_,rfl,h1,_,_,rfl,h2,_,_,rfl,h3,rfl⟩:=iD underlying163 h;obtain⟨x0,rfl,w0⟩:=nS h0;obtain⟨m1,rfl,w1⟩:=TW h1;obtain⟨m2,rfl,w2⟩:=TW h2;obtain⟨m3,rfl,w3⟩:=TW h3;exact⟨⟨x0,m1,m2,m3⟩,I,w0,w1,w2,w3⟩
abbrev Zk(h:Td W 29 cs):∃a cap l,cs=[.s a (List.length l) cap]∧aI 7 dQ.cells W (.s a l.length cap) l∧(∀x∈l,x.ok)∧l.length*56<=140737488351232:=
 xZ 7 56 underlying29 dQ.cells dQ.ok (λcs h=>alA h) h
abbrev aft(h:Td W 36 cs):∃m:dA,cs=m.cells∧m.ok W∧m.l.length<=35184372088832:=by
 obtain⟨_,_,rfl,h0,_,_,rfl,h1,_,_,rfl,h2,rfl⟩:=iD underlying36 h;obtain⟨x0,rfl,w0⟩:=nS h0;obtain⟨x1,rfl,w1⟩:=nS h1;obtain⟨a,k,l,rfl,r,-,z⟩:=xZ 4 4 underlying34 bQ.cells (λ_=>True) (λcs h=>afs h) h2;exact⟨⟨x0,x1,a,k,l⟩,I,⟨w0,w1,r⟩,by show l.length<=_; omega⟩
abbrev afu(h:Td W 33 cs):∃m:aY,cs=m.cells∧m.ok W∧m.dash.length<=17592186044416:=by
 obtain⟨_,_,rfl,h0,_,_,rfl,h1,_,_,rfl,h2,_,_,rfl,h3,_,_,rfl,h4,_,_,rfl,h5,rfl⟩:=iD underlying33 h;obtain⟨x0,rfl,w0⟩:=nS h0;obtain⟨x1,rfl,w1⟩:=nS h1;obtain⟨x2,rfl,w2⟩:=nS h2;obtain⟨x3,rfl,w3⟩:=nS h3;obtain⟨a,k,l,rfl,r,w,z⟩:=xZ 1 8 underlying31 (λx:Int=>[AQ x]) I64 (λcs h=>nS h) h4;obtain⟨x5,rfl,w5⟩:=nS h5;exact⟨⟨x0,x1,x2,x3,a,k,l,x5⟩,I,⟨w0,w1,w2,w3,JE r,w,w5⟩,by show l.length<=_; omega⟩
abbrev afv(h:Td W 133 cs):∃m:aj,cs=m.cells∧m.ok W∧m.lim:=by
 obtain⟨_,_,rfl,h0,_,_,rfl,h1,_,_,rfl,h2,_,_,rfl,h3,_,_,rfl,h4,_,_,rfl,h5,_,_,rfl,h6,_,_,rfl,h7,_,_,rfl,h8,_,_,rfl,h9,rfl⟩:=iD underlying133 h;obtain⟨x0,rfl,w0⟩:=nS h0;obtain⟨m1,rfl⟩:=Dq h1;obtain⟨m2,rfl,w2⟩:=TW h2;obtain⟨m3,rfl,w3⟩:=TW h3;obtain⟨x4,rfl,w4⟩:=nS h4;obtain⟨a,k,l,rfl,r,w,z⟩:=xZ 5 16 underlying131 fH.cells fH.ok (λcs h=>ah0 h) h5;obtain⟨x6,rfl,w6⟩:=nS h6;obtain⟨m7,rfl,w7,z7⟩:=aft h7;obtain⟨x8,rfl,w8⟩:=nS h8;obtain⟨m9,rfl,w9,z9⟩:=afr h9;exact⟨⟨x0,m1,m2,m3,x4,a,k,l,x6,m7,x8,m9⟩,by kernel_rfl,⟨w0,w2,w3,w4,r,w,w6,w7,w8,w9⟩,by show l.length<=_; omega,z7,z9⟩
abbrev Nj(h:Td W 30 cs):∃a cap l,cs=[.s a (List.length l) cap]∧aI 40 aj.cells W (.s a l.length cap) l∧(∀x∈l,x.ok W∧x.lim)∧l.length*520<=140737488351232:=
 xZ 40 520 underlying30 aj.cells (λx=>x.ok W∧x.lim) (λcs h=>afv h) h
abbrev Zl(h:Td W 38 cs):∃m:ah,cs=m.cells∧m.ok W∧m.lim:=by
 obtain⟨_,_,rfl,h0,_,_,rfl,h1,_,_,rfl,h2,_,_,rfl,h3,_,_,rfl,h4,_,_,rfl,h5,_,_,rfl,h6,_,_,rfl,h7,_,_,rfl,h8,_,_,rfl,h9,_,_,rfl,h10,_,_,rfl,h11,_,_,rfl,h12,_,_,rfl,h13,_,_,rfl,LY,_,_,rfl,h15,_,_,rfl,h16,rfl⟩:=iD underlying38 h;obtain⟨x0,rfl,w0⟩:=nS h0;obtain⟨x1,rfl,w1⟩:=nS h1;obtain⟨x2,rfl,w2⟩:=nS h2;obtain⟨m3,rfl,w3,z3⟩:=afr h3;obtain⟨a4,k4,l4,rfl,r4,w4,z4⟩:=Zk h4;obtain⟨x5,rfl,w5⟩:=nS h5;obtain⟨x6,rfl⟩:=Dp h6;obtain⟨x7,rfl,w7⟩:=nS h7;obtain⟨x8,rfl⟩:=PG h8;obtain⟨x9,rfl⟩:=PG h9;obtain⟨a10,k10,l10,rfl,r10,w10,z10⟩:=Zk h10;obtain⟨x11,rfl,w11⟩:=nS h11;obtain⟨a12,k12,l12,rfl,r12,w12,z12⟩:=Nj h12;obtain⟨m13,rfl,w13,z13⟩:=afu h13;obtain⟨a14,k14,l14,rfl,r14,w14,z14⟩:=Nj LY;obtain⟨m15,rfl,w15,z15⟩:=aft h15;obtain⟨x16,rfl,w16⟩:=nS h16;exact⟨⟨x0,x1,x2,m3,a4,k4,l4,x5,x6,x7,x8,x9,a10,k10,l10,x11,a12,k12,l12,m13,a14,k14,l14,m15,x16⟩,by kernel_rfl,⟨w0,w1,w2,w3,⟨r4,w4⟩,w5,w7,⟨r10,w10⟩,w11,⟨r12,λp hp=>(w12 p hp).1⟩,w13,⟨r14,λp hp=>(w14 p hp).1⟩,w15,w16⟩,z3,by show l4.length<=_; omega,by show l10.length<=_; omega,by show l12.length<=_; omega,λp hp=>(w12 p hp).2,z13,by show l14.length<=_; omega,λp hp=>(w14 p hp).2,z15⟩
abbrev ach(h:Td W 65 cs):∃m:aA,cs=m.cells∧m.ok W∧(∀n∈m.ns,n.lim)∧m.ns.length<=214538854200:=by
 obtain⟨_,_,rfl,h0,_,_,rfl,h1,_,_,rfl,h2,_,_,rfl,h3,rfl⟩:=iD underlying65 h;obtain⟨x0,rfl,w0⟩:=nS h0;obtain⟨x1,rfl,w1⟩:=nS h1;obtain⟨m2,rfl⟩:=Dq h2;obtain⟨a,k,l,rfl,r,w,z⟩:=xZ 47 656 underlying63 ah.cells (λn=>n.ok W∧n.lim) (λcs h=>Zl h) h3;exact⟨⟨x0,x1,m2,a,k,l⟩,by kernel_rfl,⟨w0,w1,r,λn hn=>(w n hn).1⟩,λn hn=>(w n hn).2,by show l.length<=_; omega⟩
abbrev ah1(h:Td W 42 cs):∃m:aP,cs=m.cells∧m.ok W:=by
 obtain⟨_,_,rfl,h0,_,_,rfl,h1,_,_,rfl,h2,_,_,rfl,h3,_,_,rfl,h4,_,_,rfl,h5,rfl⟩:=iD underlying42 h;obtain⟨x0,rfl,w0⟩:=nS h0;obtain⟨x1,rfl,w1⟩:=nS h1;obtain⟨x2,rfl,w2⟩:=nS h2;obtain⟨x3,rfl,w3⟩:=nS h3;obtain⟨m4,rfl,w4,-⟩:=Zl h4;obtain⟨m5,rfl⟩:=Dq h5;exact⟨⟨x0,x1,x2,x3,m4,m5⟩,by kernel_rfl,w0,w1,w2,w3,w4⟩
abbrev ah2(h:Td W 75 cs):∃m:iV,cs=m.cells∧m.ok W:=by
 obtain⟨_,_,rfl,h0,_,_,rfl,h1,rfl⟩:=iD underlying75 h;obtain⟨x0,rfl,w0⟩:=nS h0;obtain⟨m1,rfl,w1⟩:=ah1 h1;exact⟨⟨x0,m1⟩,by kernel_rfl,w0,w1⟩
section
variable{H:Type}{enc:á×À->H}{base:Nat}{v:À}{d:DataW H}{p:List MemPlace}(hw:∀x∈d.weights prog t,x<=reachBytes)(h:DataW.Trod enc prog W 0 (λ_=>true) true t v d p)
include hw h
abbrev ajk:Td W t v.cells.toList:=by
 obtain⟨n,h⟩:=h;exact⟨H,enc,n,(d,p),h,hw⟩
abbrev ajy{α:Type}{f:α->List À}{ok:α->Prop}{fs:Array Field}(ht:prog.underlying t=some (.struct fs))(hv:Value.okWide prog W .any base t v)(hR:∀cs,Td W t cs->∃m,cs=f m∧ok m):∃m,v = .agg (f m).toArray∧ok m:=by
 obtain⟨cs,rfl,hsz⟩:=okWide_struct ht hv;obtain⟨l⟩:=cs;obtain⟨m,hm,ho⟩:=hR l (ajk hw h);exact⟨m,by rw[<-hm],ho⟩
end
abbrev aci{H:Type}{enc:á×À->H}{base:Nat}{v:À}{d:DataW H}{p:List MemPlace}(hw:∀x∈d.weights prog 70,x<=reachBytes)(h:DataW.Trod enc prog W 0 (λ_=>true) true 70 v d p)(hv:Value.okWide prog W .any base 70 v) :
  ∃a cap l,v = .s a (List.length l) cap∧aI 56 iV.cells W (.s a l.length cap) l∧(∀x∈l,x.ok W)∧l.length*704<=140737488351232:=by
 obtain⟨a,len,cap,rfl⟩:=okWide_slice underlying70 hv;obtain⟨a1,k1,l1,e1,r1,w1,z1⟩:=xZ 56 704 underlying70 iV.cells (λe=>e.ok W) (λcs h=>ah2 h) (ajk hw h);exact⟨a1,k1,l1,by simpa[Value.cells]using e1,r1,w1,z1⟩
abbrev Yb{H:Type}{ts:List á}{d:DataW H}{ds:List (DataW H)}(h:∀x∈DataW.weightsEach prog (t::ts) (d::ds),x<=reachBytes):(∀x∈d.weights prog t,x<=reachBytes)∧∀x∈DataW.weightsEach prog ts ds,x<=reachBytes:=
 ⟨λx hx=>h x (ϐ _ hx),λx hx=>h x (Ş _ hx)⟩
