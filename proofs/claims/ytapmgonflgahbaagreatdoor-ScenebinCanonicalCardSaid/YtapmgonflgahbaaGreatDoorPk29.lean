/- Encoding: ints, colors, scenes without nodes. Reading: -/
import Derived.Test.YtapmgonflgahbaaGreatDoorPk28
set_option linter.unusedVariables false
namespace Go.Proofs.YtapmgonflgahbaaGreatDoor
open _root_.Go.Proofs.Tryz
section
set_option maxHeartbeats 1600000
set_option maxRecDepth 100000
open Go.RowKit
variable{α:Type}{K:Nat}
def dK(L:List Int):List UInt8:=L.flatMap fun x=>En.fZ 10 (En.zig x)
theorem YX{L:List Int}{k:Nat}{x:Int}(hk:k<L.length)(hx:L[k]=x):dK (L.take (k+1))=dK (L.take k)++En.fZ 10 (En.zig x):=by
 unfold dK;rw[axp hk,hx,ayH]; simp
theorem gV(L:List Int):(dK L).length≤10*L.length:=by
 induction L with
 | nil=>simp[dK]
 | cons x L ih=>unfold dK at *; rw[axJ,awr,awV]; have:=En.kK 10 (En.zig x); omega
abbrev acJ (w:World)(v:Value)(L:List Int):Prop:=aO 1 (fun x:Int=>[.i x]) w v L
theorem gU{w:World}{v:Value}{L:List Int}(h:acJ w v L)(hb:∀x∈L,I64 x)(hn:L.length≤1000000) :
  Calls prog 33 #[v] w fun e w'=>∃v',e = .returned v'∧OwnB w.heap.size w' v' (dK L)∧Ext w w':=by
 obtain⟨a,cap,rfl⟩:=h.shape;have hmax:L.length≤9223372036854775807:=h.len;refine avU func33 ntmps33 fun ac S=>avP fun _ aV=>adr S 1 [] [(2,.sn)] fun S=>apB<|aV _ _<|avP fun _ fK=>adr S 1 [] [(3,.sn)] fun S=>apB<|fK _ _<|awg fun _ jC=>avP (fun _ nT=>?_);have R:=aw3 S;have R:=Qg R;refine adr S 3 [] [(6,.slice a L.length cap),(7,.i L.length),(8,.i 0)] fun S=>apB<|nT _ _<|awi ?_;refine awS (ι:=Nat×Value) (fun p a' w'=>p.1≤L.length∧(True)∧Sx.Rw w w' [] [⟨5,1,p.2,(dK (L.take p.1)).length,(dK (L.take p.1)).map fA⟩]∧Sx.St w a' w' 18 [(0,.slice a L.length cap),(2,.sn),(3,p.2),(6,.slice a L.length cap),(7,.i L.length),(8,.i p.1)] [] []) (fun p=>L.length-p.1) (0,(.sn)) ⟨awt _,trivial,R,S.sn⟩ ?_;rintro⟨k,v⟩ ac u hI;try dsimp only at hI
 obtain⟨hk,hR,R,S⟩:=hI;refine avP fun _ dA=>adr S 1 [] [(9,.bool ((k:Int)<(L.length:Int)))] fun S=>apB<|dA _ _<|awg (fun _ jq=>?_);refine avR S (fun oL=>?_) (fun oL=>?_)
 ·refine awh<|jq _ _<|awg fun _ dS=>awi<|avP (fun _ ig=>?_);have uz:k<L.length:=by have:=awz oL; omega
  obtain⟨b10,o11,rfl,x16,zG,zx,EX⟩:=awN h (fun _=>rfl) (k) uz;have S:=S.view0 zx EX;refine adr S 3 [.idx k L.length,.mem 0 0] [(5,.i x16)] (hk:=⟨uz,trivial⟩) fun S=>apB<|ig _ _<|awk<|adr S 2 [] [(12,v),(13,.i x16)] fun S=>avV S (some 14) (yR x16 _ (hb x16 (by rw[←zG]; exact awT _)).1 (hb x16 (by rw[←zG]; exact awT _)).2) ?_;rintro e u ⟨v14,rfl,aqy,yg⟩;refine⟨_,rfl,yg,fun ac S=>?_⟩;have hvl:=gV (L.take k);rw[ayw]at hvl;have hu9:(En.fZ 10 (En.zig x16)).length≤10:=En.kK 10 _;obtain⟨R,Y19⟩:=R.bV S (awJ yg);refine Sx.app S R 0 15 rfl tC (jH (aqy)) (by show(dK (L.take k)).length+(En.fZ 10 (En.zig x16)).length≤9223372036854775807; omega) (by show((dK (L.take k)).length+(En.fZ 10 (En.zig x16)).length)*1≤140737488355328; omega) fun ac u v20 X21 R S=>adr S 1 [] [(3,v20)] fun S=>apB<|dS _ _<|awk<|adr S 2 [.re 16 (.i (IntKind.i64.wrap ((k:Int)+1))) (.i (k+1:Nat))] [(8,.i (k+1:Nat))] (hk:=⟨av5 (by omega),trivial⟩) fun S=>apB ?_;show ∃i',_∧_;exact⟨((k+1),v20),⟨by omega,trivial,R.as (show [(⟨5,1,v20,((dK (L.take k)).length+(En.fZ 10 (En.zig x16)).length),((dK (L.take k)).map fA++(En.fZ 10 (En.zig x16)).map fA)⟩:Sx.Row)]=[⟨5,1,v20,(dK (L.take (k+1))).length,(dK (L.take (k+1))).map fA⟩] by rw[YX uz zG]; simp),S.sn⟩,by show _-_<_-_; omega⟩
 refine awy<|jC _ _<|avP fun _ jm=>adr S 2 [] [(2,v)] fun S=>apB<|jm _ _<|avS S results33 ?_;exact⟨_,rfl,by have:=R.own _ awK; rw[awP (by have:=awG oL; omega)]at this; exact this,S.E⟩
theorem qV{w:World}{p:bW} :
  Calls prog 34 #[.agg p.cells.toArray] w fun e w'=>∃v,e = .returned v∧OwnB w.heap.size w' v (Px.pb p)∧Ext w w':=by
 skip;refine avU func34 ntmps34 fun ac S=>avP fun _ aV=>avQ S 1 p.cells fun ac u b2 E3 hb4 S=>adr S 1 [] [(2,.sn)] fun S=>apB<|aV _ _<|avP fun _ dA=>adr S 8 [.mem 0 0,.mem 0 1,.mem 0 2,.mem 0 3] [(4,.u (p.r.toNat:Int)),(6,.u (p.g.toNat:Int)),(8,.u (p.b.toNat:Int)),(10,.u (p.a.toNat:Int))] (fun S=>?_);have R:=aw3 S;refine Sx.newRow S R 11 4 5 1 p.cells fun ac u v6 E7 X8 R S=>adr S 1 [] [(2,v6)] fun S=>apB<|dA _ _<|avS S results34 ?_;exact⟨_,rfl,R.own _ awK,S.E⟩
theorem YZ{w:World}{v f:Value}{a:Option Addr}{c:Nat} :
  Calls prog 78 #[v,.slice a 0 c,f] w fun e w'=>e = .returned v∧Ext w w':=by
 skip;refine avU func78 ntmps78 fun ac S=>avP fun _ aV=>adr S 1 [] [(6,.sn)] fun S=>apB<|aV _ _<|awg fun _ fK=>avP fun _ jC=>adr S 3 [] [(9,.slice a 0 c),(10,.i 0),(11,.i 0)] fun S=>apB<|jC _ _<|awi<|axk 1 ?_;rw[awv];refine avP fun _ nT=>adr S 1 [] [(12,.z)] fun S=>apB<|nT _ _<|awg fun _ dA=>av4 S<|awy<|fK _ _<|avP fun _ jq=>adr S 2 [] [(6,v)] fun S=>apB<|jq _ _<|avS S results78 ?_;exact⟨rfl,S.E⟩
theorem Y0{w:World}{f:Value}{a:Option Addr}{c:Nat} :
  Calls prog 35 #[.slice a 0 c,f] w fun e w'=>∃v,e = .returned v∧OwnB w.heap.size w' v [0]∧Ext w w':=by
 skip;refine avU func35 ntmps35 fun ac S=>avP fun _ aV=>adr S 1 [] [(4,.sn)] fun S=>apB<|aV _ _<|avP fun _ fK=>adr S 3 [] [(7,.int .u64 0)] fun S=>avV S (some 8) (gq 0 _ (by omega)) ?_;rintro e u ⟨v8,rfl,ho8,E3⟩;refine⟨_,rfl,E3,fun ac S=>?_⟩;refine adr S 2 [] [(9,.slice a 0 c),(10,f)] fun S=>avZ S 11 (YZ (v:=v8) (f:=f) (a:=a) (c:=c)) fun ac u E4 S=>adr S 1 [] [(4,v8)] fun S=>apB<|fK _ _<|avS S results35 ?_;exact⟨_,rfl,(Sx.bU ho8 E4),S.E⟩
def scB(s:bF):List UInt8:=[71,83,49]++dK [s.w,s.h]++Px.pb s.bg++[0]
theorem WA{s:bF}:(scB s).length=3+(dK [s.w,s.h]).length+4+1:=by simp[scB,Px.pb]; omega
theorem afe{s:bF}:(scB s).map fA=[.u 71,.u 83,.u 49]++(dK [s.w,s.h]).map fA++(Px.pb s.bg).map fA++[fA 0]:=by
 unfold scB; rw[aw6,aw6,aw6]; rfl
theorem yZ{w:World}{s:bF}(h:eX K w s)(hg:cO w)(hns:s.ns=[])(hv:s.key.valid=true) :
  Calls prog 12 #[s.v] w fun e w'=>∃v,e = .returned (.tuple #[v,.i 0])∧OwnB w.heap.size w' v (dU.app (scB s))∧Ext w w':=by
 skip;refine avU func12 ntmps12 fun ac S=>avP fun _ aV=>avQ S 1 s.cells fun ac u b2 E3 hb4 S=>adr S 2 [] [(2,.sn),(3,.i 0)] fun S=>apB<|aV _ _<|awg fun _ dA=>avP fun _ jq=>adr S 1 [.mem 0 0] [(5,s.v)] fun S=>avZ S 6 (sJ (h.below S.E) (cO.below hg S.E)) fun ac u E7 S=>adr S 1 [] [(7,.bool (!s.key.valid))] fun S=>apB (jq _ _ ?_);refine avR S (fun hc8=>?_) (fun hc8=>?_)
 ·refine avP fun _ ig=>adr S 2 [] [(2,.sn),(3,.i 18)] fun S=>apB<|ig _ _<|awq ?_;rw[hv]at hc8; simp at hc8
 refine awh<|dA _ _<|avP (fun _ dZ=>?_);have R:=aw3 S;refine Sx.lit S 8 9 3 [.u 71,.u 83,.u 49] 49 5 underlying49 underlying5 fun{ac u b13} tJ vK S=>adr S 4 [.mem 0 0,.mem 0 1] [(11,.i s.w),(13,.i s.h)] fun S=>awc S 14 2 [.i s.w,.i s.h] fun ac u b14 Lm hb16 S=>avV S (some 15) (gU (L:=[s.w,s.h]) (Sx.jJ (f:=fun x:Int => .i x) [s.w,s.h] (S.bx 0) (by simp[maxLen])) (fun x hx=>by simp at hx; rcases hx with rfl | rfl; exact h.1; exact h.2.1) (by simp)) ?_;rintro e u ⟨v15,rfl,acK,uS⟩;refine⟨_,rfl,uS,fun ac S=>?_⟩;have hvl:=gV [s.w,s.h];have hvn:0<(dK [s.w,s.h]).length:=by unfold dK; rw[axJ,awr]; have h1:0<(En.fZ 10 (En.zig s.w)).length:=En.xk 9 _; omega
 simp only[awV,axn]at hvl;obtain⟨R,Y18⟩:=R.bV S (awM (awJ tJ) (awM (axi Lm hb16) (awJ uS)));refine Sx.aeo S R 16 tC ((fH.below vK (Ext.trans' Lm uS))) (jH (acK)) (by omega) (by omega) (by simp[maxLen]<;>omega) (by omega) fun ac u v19 uV X21 R S=>adr S 1 [] [(4,v19)] fun S=>apB<|dZ _ _<|avP fun _ jm=>adr S 3 [.mem 1 2] [(17,v19),(19,.agg s.bg.cells.toArray)] fun S=>avV S (some 20) (qV (p:=s.bg)) ?_;rintro e u ⟨v20,rfl,aiL,SL⟩;refine⟨_,rfl,SL,fun ac S=>?_⟩;obtain⟨R,Y24⟩:=R.bV S (awJ SL);refine Sx.app S R 0 21 rfl tC (jH (aiL)) (by show 3+(dK [s.w,s.h]).length+4≤9223372036854775807; omega) (by show(3+(dK [s.w,s.h]).length+4)*1≤140737488355328; omega) fun ac u v25 X26 R S=>adr S 1 [] [(4,v25)] fun S=>apB<|jm _ _<|avP fun _ mV=>adr S 5 [.mem 1 6] [(22,v25),(24,s.s),(26,.func (.func 36) #[.agg #[.z]] #[])] (fun S=>?_);have hs0:s.s = .slice s.nsa 0 s.nsc:=by unfold bF.s; rw[hns]; rfl
 refine avV S (some 27) ((by have hc:=Y0 (w:=u) (f := .func (.func 36) #[.agg #[.z]] #[]) (a:=s.nsa) (c:=s.nsc); rw[←hs0]at hc; exact hc)) ?_;rintro e u ⟨v27,rfl,aiM,KY⟩;refine⟨_,rfl,KY,fun ac S=>?_⟩;obtain⟨R,Y29⟩:=R.bV S (awJ KY);refine Sx.app S R 0 28 rfl tC (jH (aiM)) (by show 3+(dK [s.w,s.h]).length+4+1≤9223372036854775807; omega) (by show(3+(dK [s.w,s.h]).length+4+1)*1≤140737488355328; omega) fun ac u v30 X31 R S=>adr S 1 [] [(4,v30)] fun S=>apB<|mV _ _<|avP fun _ jM=>adr S 1 [] [(29,v30)] (fun S=>?_);have hout:OwnB w.heap.size u v30 (scB s):=by have:=R.own _ awK; unfold OwnB; rw[WA,afe]; exact this
 have hol:(scB s).length≤1000:=by rw[WA]; omega
 have S0:=S.E.size;refine avV S (some 30) (rX _ (scB s) _ (kZ hout) (by omega)) ?_;rintro e u ⟨v30,rfl,SQ,E33⟩;refine⟨_,rfl,E33,fun ac S=>?_⟩;refine adr S 2 [] [(2,v30),(3,.i 0)] fun S=>apB<|jM _ _<|Sx.rt2 S results12 ?_;exact⟨_,rfl,aW (SQ) S0,S.E⟩
end
section
set_option maxHeartbeats 1600000
set_option maxRecDepth 100000
open Go.RowKit
variable{α:Type}{K:Nat}
theorem UF{l:List UInt8}{p:Nat}(hp:p≤l.length):(En.BU l (p:Int)).2.1≤l.length:=by
 cases h:En.BU l (p:Int)with
 | mk k r =>
  obtain⟨x,er⟩:=r;by_cases he:er=0
  ·subst he; obtain⟨c,-,-,h2,-⟩:=Px.ok1 hp h; exact h2
  rw[Px.UC hp]at h;split at h
  ·simp only[awo]at h; omega
  simp only[awo]at h; show x≤_; omega
def Rq(l:List UInt8)(p:Nat)(bad:Bool):Bool:=bad||(En.vat l (p:Int)).2.2 != 0
def WB(l:List UInt8)(p:Nat)(bad:Bool):Nat:=if Rq l p bad=true then p else (En.vat l (p:Int)).2.1
def Xx(l:List UInt8)(p:Nat)(bad:Bool):Int:=if Rq l p bad=true then 0 else (En.vat l (p:Int)).1
theorem ag5{l:List UInt8}{p:Nat}{bad:Bool}(hp:p≤l.length):WB l p bad≤l.length:=by
 unfold WB; split
 ·exact hp
 exact UF hp
theorem aai{l:List UInt8}{p:Nat}:I64 (En.vat l (p:Int)).1:=by
 have:=En.acf (n:=(En.BU l (p:Int)).1) (SX l p);exact this
theorem aiN{l:List UInt8}{p nx er:Nat}{x:Int}{bad:Bool}(hu:En.vat l (p:Int)=(x,nx,er))(h:(bad || !decide ((er:Int)=0))=true):Rq l p bad=true∧WB l p bad=p∧Xx l p bad=0:=by
 have:Rq l p bad=true:=by
  unfold Rq; rw[hu];cases bad
  ·simp at h ⊢; omega
  rfl
 unfold WB Xx; rw[awl this,awl this]; exact⟨this,rfl,rfl⟩
theorem agJ{l:List UInt8}{p nx er:Nat}{x:Int}{bad:Bool}(hu:En.vat l (p:Int)=(x,nx,er))(h:(bad || !decide ((er:Int)=0))=false):bad=false∧Rq l p bad=false∧WB l p bad=nx∧Xx l p bad=x:=by
 have:bad=false∧Rq l p bad=false:=by
  unfold Rq; rw[hu];cases bad
  ·simp at h ⊢; omega
  simp at h
 unfold WB Xx; rw[this.2,hu]; exact⟨this.1,rfl,by simp,by simp⟩
def ZM(l:List UInt8)(p:Nat)(bad:Bool):Bool:=bad||((En.BU l (p:Int)).2.2 != 0||decide (l.length-(En.BU l (p:Int)).2.1<(En.BU l (p:Int)).1))
def rcP(l:List UInt8)(p:Nat)(bad:Bool):Nat:=if ZM l p bad=true then p else (En.BU l (p:Int)).2.1
def rcV(l:List UInt8)(p:Nat)(bad:Bool):Nat:=if ZM l p bad=true then 0 else (En.BU l (p:Int)).1
theorem ag7{l:List UInt8}{p:Nat}{bad:Bool}(hp:p≤l.length):rcP l p bad≤l.length:=by
 unfold rcP; split
 ·exact hp
 exact UF hp
theorem ag6{l:List UInt8}{p:Nat}{bad:Bool}:rcV l p bad≤l.length:=by
 unfold rcV; split
 ·omega
 rename_i h; unfold ZM at h; simp at h; omega
theorem aiO{l:List UInt8}{p k nx er:Nat}{bad:Bool}(hu:En.BU l (p:Int)=(k,nx,er))(h:¬(bad=false∧er=0∧k≤l.length-nx)):ZM l p bad=true∧rcP l p bad=p∧rcV l p bad=0:=by
 have:ZM l p bad=true:=by
  unfold ZM; rw[hu];cases bad
  ·simp at h ⊢; omega
  rfl
 unfold rcP rcV; rw[awl this,awl this]; exact⟨this,rfl,rfl⟩
theorem agK{l:List UInt8}{p k nx er:Nat}{bad:Bool}(hu:En.BU l (p:Int)=(k,nx,er))(h:bad=false∧er=0∧k≤l.length-nx):ZM l p bad=false∧rcP l p bad=nx∧rcV l p bad=k:=by
 have:ZM l p bad=false:=by
  unfold ZM; rw[hu];obtain⟨rfl,rfl,h⟩:=h;simp; omega
 unfold rcP rcV; rw[this,hu]; exact⟨rfl,by simp,by simp⟩
theorem jP(v u:Value)(l m:List UInt8)(w:World)(hv:bG w v l)(hu:bG w u m) :
  Calls prog 55 #[v,u] w fun e w'=>e = .returned (.bool (l==m))∧w=w':=by
 have s1:=nP (P:=prog) (src:=49) (e:=5) (dst:=9) underlying49 underlying5 underlying9 hv;have s2:=nP (P:=prog) (src:=49) (e:=5) (dst:=9) underlying49 underlying5 underlying9 hu;clear hv hu;go_enter func55,ntmps55
 go_wp2_with fail
 go_ret
 exact⟨rfl,rfl⟩
theorem oK{w0 w:World}{b p cap:Nat}{a:Option Addr}{bad pk:Bool}{l:List UInt8}(hE:Ext w0 w)(hx:Bx w b #[.slice a l.length cap,.i p,.bool bad,.bool pk])(hb:w0.heap.size≤b)(h:iQ w0 (.slice a l.length cap) l)(hp:p≤l.length) :
  Calls prog 50 #[.q b 0] w fun e w'=>e = .returned (.i (Xx l p bad))∧Ext w0 w'∧Ch b w w'∧Bx w' b #[.slice a l.length cap,.i (WB l p bad:Nat),.bool (Rq l p bad),.bool pk]:=by
 skip;refine axc func50 ntmps50 hE hx hb fun ac S=>avP fun _ aV=>adr S 1 [] [(2,.i 0)] fun S=>apB<|aV _ _<|awg (fun _ fK=>?_);obtain⟨xv,nx,er,hu⟩:∃xv nx er,En.vat l (p:Int)=(xv,nx,er):=⟨_,_,_,rfl⟩;have hwb:I64 xv:=by have:=@aai l p; rw[hu]at this; exact this
 refine av3 S 15 [.mem 0 0,.mem 0 1] [(_,_,true,.tuple #[.i xv,.i nx,.i er])] [(3,.i xv),(4,.i nx),(18,.i er)] ⟨fun u hC g=>(by have hc:=S9 (.slice a l.length cap) l (p:Int) _ (fO (aO.below h (Ext.trans' S.E hC))); rw[hu]at hc; exact hc),trivial⟩ fun ac u E3 S=>adr S 1 [] [(5,.i er)] fun S=>apB<|fK _ _<|awg fun _ nT=>avP fun _ dA=>adr S 8 [.mem 0 2] [(26,.bool (bad||(((er:Int)) != 0)))] fun S=>apB (dA _ _ ?_);refine avR S (fun hc6=>?_) (fun hc6=>?_)
 ·refine avP fun _ jr=>adr S 3 [] [(29,.q b 2)] fun S=>av1 S 0 (off:=2) (v := .bool true) rfl (fun u C8 S=>?_);have Fs9:=(aI ((Ch.trans (Ch.refl b w) (Ch.bf E3))) C8 (by first | exact .inl rfl | exact .inr (by omega)));refine apB<|jr _ _<|avP fun _ dZ=>adr S 1 [] [(2,.i 0)] fun S=>apB<|dZ _ _<|awq ?_;have hq:(bad || !decide ((er:Int)=0))=true:=by cases bad<;>simp at hc6 ⊢ <;> omega
  obtain⟨q1,q2,q3⟩:=aiN hu hq;refine av2 S results50 ?_;exact⟨by rw[q3],S.E,Fs9,by rw[q1,q2]; have:=S.bx 0; exact this⟩
 refine awh<|nT _ _<|avP fun _ eG=>adr S 4 [] [(31,.i nx),(33,.q b 1)] fun S=>av1 S 0 (off:=1) (v := .i nx) rfl (fun u C12 S=>?_);have ach:=(aI ((Ch.trans (Ch.refl b w) (Ch.bf E3))) C12 (by first | exact .inl rfl | exact .inr (by omega)));refine apB<|eG _ _<|avP fun _ gK=>adr S 2 [] [(2,.i xv)] fun S=>apB<|gK _ _<|awq ?_;have hq:(bad || !decide ((er:Int)=0))=false:=by cases bad<;>simp at hc6 ⊢ <;> omega
 obtain⟨q0,q1,q2,q3⟩:=agJ hu hq;refine av2 S results50 ?_;exact⟨by rw[q3],S.E,ach,by rw[q1,q2]; have:=S.bx 0; rw[q0]at this; exact this⟩
theorem Df{w0 w:World}{b p cap:Nat}{a:Option Addr}{bad pk:Bool}{l:List UInt8}(hE:Ext w0 w)(hx:Bx w b #[.slice a l.length cap,.i p,.bool bad,.bool pk])(hb:w0.heap.size≤b)(h:iQ w0 (.slice a l.length cap) l)(hp:p≤l.length) :
  Calls prog 53 #[.q b 0] w fun e w'=>e = .returned (.i (rcV l p bad:Nat))∧Ext w0 w'∧Ch b w w'∧Bx w' b #[.slice a l.length cap,.i (rcP l p bad:Nat),.bool (ZM l p bad),.bool pk]:=by
 have hml:l.length≤9223372036854775807:=h.len;refine axc func53 ntmps53 hE hx hb fun ac S=>avP fun _ aV=>adr S 1 [] [(2,.i 0)] fun S=>apB<|aV _ _<|awg (fun _ fK=>?_);obtain⟨kk,nx,er,hu⟩:∃kk nx er,En.BU l (p:Int)=(kk,nx,er):=⟨_,_,_,rfl⟩;have hnx:nx≤l.length:=by have:=@UF l p hp; rw[hu]at this; exact this
 have hkb:kk<18446744073709551616:=by have:=SX l (p:Int); rw[hu]at this; exact this
 refine av3 S 15 [.mem 0 0,.mem 0 1] [(_,_,true,.tuple #[.int .u64 (kk:Int),.i nx,.i er])] [(3,.int .u64 (kk:Int)),(4,.i nx),(18,.i er)] ⟨fun u hC g=>(by have hc:=Dk (.slice a l.length cap) l (p:Int) _ (fO (aO.below h (Ext.trans' S.E hC))); rw[hu]at hc; exact hc),trivial⟩ fun ac u E3 S=>adr S 1 [] [(5,.i er)] fun S=>apB<|fK _ _<|awg fun _ nT=>avP fun _ dA=>adr S 20 [.mem 0 2,.mem 0 0,.re 35 (.i (IntKind.i64.wrap ((l.length:Int)-(nx:Int)))) (.i (l.length-nx:Nat)),.re 36 (.int .u64 (IntKind.u64.wrap ((l.length-nx:Nat):Int))) (.int .u64 ((l.length-nx:Nat):Int))] [(38,.bool ((bad||(((er:Int)) != 0))||(decide (((l.length-nx:Nat):Int)<(kk:Int)))))] (hk:=⟨(Sx.qg (by omega) (by omega)),(wrap_u64 (by omega)),trivial⟩) fun S=>apB (dA _ _ ?_);refine avR S (fun hc6=>?_) (fun hc6=>?_)
 ·refine avP fun _ jr=>adr S 3 [] [(41,.q b 2)] fun S=>av1 S 0 (off:=2) (v := .bool true) rfl (fun u C8 S=>?_);have Fs9:=(aI ((Ch.trans (Ch.refl b w) (Ch.bf E3))) C8 (by first | exact .inl rfl | exact .inr (by omega)));refine apB<|jr _ _<|avP fun _ dZ=>adr S 1 [] [(2,.i 0)] fun S=>apB<|dZ _ _<|awq ?_;have hq:¬(bad=false∧er=0∧kk≤l.length-nx):=by rintro⟨h1,h2,h3⟩; rw[h1]at hc6; simp at hc6<;>omega
  obtain⟨q1,q2,q3⟩:=aiO hu hq;refine av2 S results53 ?_;exact⟨by rw[q3]<;>rfl,S.E,Fs9,by rw[q1,q2]; have:=S.bx 0; exact this⟩
 refine awh<|nT _ _<|avP (fun _ eG=>?_);have hq:bad=false∧er=0∧kk≤l.length-nx:=by cases bad<;>simp at hc6 ⊢ <;> omega
 refine adr S 4 [] [(43,.i nx),(45,.q b 1)] fun S=>av1 S 0 (off:=1) (v := .i nx) rfl (fun u C12 S=>?_);have ach:=(aI ((Ch.trans (Ch.refl b w) (Ch.bf E3))) C12 (by first | exact .inl rfl | exact .inr (by omega)));refine apB<|eG _ _<|avP fun _ gK=>adr S 3 [.re 47 (.i (IntKind.i64.wrap (kk:Int))) (.i kk)] [(2,.i kk)] (hk:=⟨(Sx.qg rfl (by omega)),trivial⟩) fun S=>apB<|gK _ _<|awq ?_;obtain⟨q1,q2,q3⟩:=agK hu hq;refine av2 S results53 ?_;exact⟨by rw[q3]<;>rfl,S.E,ach,by rw[q1,q2]; have:=S.bx 0; rw[hq.1]at this; exact this⟩
theorem Ql{w:World}{r f:Value} :
  Calls prog 52 #[r,.i 0,f] w fun e w'=>e = .returned (.sn)∧Ext w w':=by
 skip;refine avU func52 ntmps52 fun ac S=>avP fun _ aV=>adr S 1 [] [(6,.sn)] fun S=>apB<|aV _ _<|avP fun _ fK=>adr S 1 [] [(7,.sn)] fun S=>apB<|fK _ _<|awg fun _ jC=>avP fun _ nT=>adr S 2 [] [(8,.i 0),(9,.i 0)] fun S=>apB<|nT _ _<|awi<|axk 1 ?_;rw[awv];refine avP fun _ dA=>adr S 1 [] [(10,.z)] fun S=>apB<|dA _ _<|awg fun _ jq=>av4 S<|awy<|jC _ _<|avP fun _ jr=>adr S 2 [] [(6,.sn)] fun S=>apB<|jr _ _<|avS S results52 ?_;exact⟨rfl,S.E⟩
theorem y7{w:World}{v v':Value}{l m:List UInt8}(h:iQ w v l)(h':iQ w v' m) :
  Calls prog 102 #[v,v'] w fun e w'=>e = .returned (.bool (decide (m.length≤l.length)&&(l.take m.length==m)))∧Ext w w':=by
 obtain⟨a,cap,rfl⟩:=h.shape;obtain⟨d,cap',rfl⟩:=h'.shape;refine avU func102 ntmps102 fun ac S=>avP fun _ aV=>adr S 1 [] [(4,.z)] fun S=>apB<|aV _ _<|avP (fun _ fK=>?_);by_cases hq:m.length≤l.length
 ·have hcap:=Sx.G7 h;refine adr S 11 [.re 9 (.bool ((m.length:Int)≤(l.length:Int))) (.bool true),.slc 0 m.length cap cap] [(10,.bool true),(14,.slice (Sx.P7 a 0 cap 1) m.length cap),(15,.slice d m.length cap')] (hk:=⟨(awp Value.bool (axg (by omega))),(by omega),trivial⟩) fun S=>Sx.lW S (some 16) (av8 (jP _ _ (l.take m.length) m _ (fO (aO.below (Sx.Ux h (l:=0) (h':=m.length) (m:=cap) (by omega) hq (by omega) (by omega)) S.E)) (fO (aO.below h' S.E)))) ?_;rintro e u ⟨rfl,E3⟩;refine⟨_,rfl,E3,fun ac S=>?_⟩;refine adr S 2 [] [(4,.bool (l.take m.length==m))] fun S=>apB<|fK _ _<|avS S results102 ?_;exact⟨awp (fun b=>Ending.returned (Value.bool b)) (by rw[axg hq,axo]),S.E⟩
 refine adr S 14 [.re 9 (.bool ((m.length:Int)≤(l.length:Int))) (.z),.dead 11 (.z),.dead 12 (.z),.dead 13 (.z),.dead 14 (.z),.dead 15 (.z),.dead 16 (.z)] [(4,.z)] (hk:=⟨(awp Value.bool (ax0 (by omega))),trivial⟩) fun S=>apB<|fK _ _<|avS S results102 ?_;exact⟨awp (fun b=>Ending.returned (Value.bool b)) (by rw[ax0 hq,axL]),S.E⟩
end
section
open Go.RowKit
variable{α:Type}{K:Nat}
theorem uK{f:α→Value}{w:World}{v:Value}{l:List α}(h:dB f w v l):aO 1 (fun x=>[f x]) w v l:=by
 obtain⟨a,cap,rfl,hm,hh⟩:=h;refine⟨a,cap,rfl,hm,hh.imp id ?_⟩;rintro⟨b,o,rfl,hb,hl,hc⟩;refine⟨b,o,rfl,hb,hl,fun i hi j hj=>?_⟩;obtain rfl:j=0:=by omega
 rw[show o+i*1+0=o+i by omega,hc i hi]; rfl
theorem mJ(m:List UInt8):(dU.app m).length=m.length+4:=by simp[dU.app,dU.le4]
theorem UG{w:World}{v:Value}{m:List UInt8}(h:iQ w v (dU.app m))(hm:m.length≤100000000) :
  Calls prog 101 #[v] w fun e w'=>∃v',e = .returned (.tuple #[v',.i 0])∧iQ w' v' m∧Ext w w':=by
 refine(Dx v (dU.app m) m.length w (fO h) (mJ m) hm).mono ?_;rintro e w' ⟨v',k,rfl,hE,h1,-⟩;have ht:(dU.app m).take m.length=m:=by unfold dU.app; rw[List.take_left]
 obtain⟨rfl,hb⟩:=h1 (by rw[ht]; unfold dU.app; rw[ayI]);rw[ht]at hb;exact⟨v',rfl,uK hb,hE⟩
set_option maxRecDepth 100000 in
set_option maxHeartbeats 1600000 in
theorem Hf{w:World}{v:Value}{m:List UInt8}{c0 c1' c2:UInt8}(h:iQ w v (dU.app m))(hm:m.length≤1000000)(hp:m.take 3=[c0,c1',c2]) :
  Calls prog 49 #[v,.string ⟨#[c0,c1',c2]⟩] w fun e w'=>∃b a1 c1 wm,e = .returned (.tuple #[.q b 0,.i 0])∧Ext w wm∧iQ wm (.slice a1 m.length c1) m∧wm.heap.size≤b∧Ext wm w'∧Bx w' b #[.slice a1 m.length c1,.i (3:Nat),.z,.z]:=by
 replace hm:m.length≤100000000:=by omega
 obtain⟨a,cap,rfl⟩:=h.shape;refine avU func49 ntmps49 fun ac S=>avP fun _ aV=>adr S 2 [] [(4,(.pointer none)),(5,.i 0)] fun S=>apB<|aV _ _<|avP fun _ fK=>adr S 1 [] [(9,.slice a ((dU.app m).length) cap)] fun S=>avV S (some 10) (UG h hm) ?_;rintro e u ⟨v1,rfl,hv1,E3⟩;obtain⟨a1,c1,rfl⟩:=hv1.shape;refine⟨_,rfl,E3,fun ac S=>?_⟩;obtain⟨wm,hwm⟩:∃x,x=u:=⟨_,rfl⟩;have hbm:iQ wm (.slice a1 m.length c1) m:=hwm▸hv1;have aiP:Ext w wm:=hwm▸S.E;have Xw:Ext wm u:=hwm▸Ext.rfl';clear hwm;refine adr S 5 [] [(6,.slice a1 m.length c1),(7,.i 0)] fun S=>apB<|fK _ _<|awg fun _ nT=>avP fun _ dA=>adr S 2 [] [(14,.z)] fun S=>apB<|dA _ _<|av4 S<|awh<|nT _ _<|awg fun _ jq=>avP fun _ jr=>adr S 2 [] [(16,.slice a1 m.length c1),(17,.string ⟨#[c0,c1',c2]⟩)] fun S=>Sx.bytesOf S 18 [c0,c1',c2] underlying9 underlying49 underlying5 (by simp[maxLen]) fun{ac u b10 c11} E8 hr9 S=>avZ S 19 ((by have hc:=y7 (w:=u) (aO.below hbm ((Ext.trans' Xw E8))) ((uK hr9)); rw[show(decide ([c0,c1',c2].length≤m.length)&&(m.take [c0,c1',c2].length==[c0,c1',c2]))=true by(have e:m.take 3=[c0,c1',c2]:=hp; have e2:=awp List.length e; simp at e2; simp[e]; omega)]at hc; exact hc)) fun ac u qN S=>adr S 1 [] [(20,.z)] fun S=>apB<|jr _ _<|av4 S<|awh<|jq _ _<|avP (fun _ gW=>?_);have hws:=(((Ext.trans' Xw (Ext.trans' E8 qN)))).size;refine adr S 4 [] [(24,.agg #[.slice a1 m.length c1,.i 3,.z,.z])] fun S=>avQ S 25 [.slice a1 m.length c1,.i 3,.z,.z] fun ac u b14 Lm hb16 S=>adr S 2 [] [(4,.q b14 0),(5,.i 0)] fun S=>apB<|gW _ _<|Sx.rt2 S results49 ?_;exact⟨_,_,_,wm,rfl,aiP,hbm,by have:=hb16; omega,((Ext.trans' Xw (Ext.trans' E8 (Ext.trans' qN Lm)))),S.bx 0⟩
end
section
open Go.RowKit
variable{α:Type}{K:Nat}
def s0:bF:=⟨4,4,⟨255,255,255,255⟩,none,0,[]⟩
def m0:List UInt8:=[71,83,49,8,8,255,255,255,255,0]
theorem WC(w:World):eX 20 w s0:=⟨show I64 4 by decide,show I64 4 by decide,dH _ _ _,fun n hn=>by cases hn⟩
theorem Qm:s0.key.valid=true:=by decide +kernel
theorem Qn:scB s0=m0:=by decide +kernel
theorem LZ:Xx m0 3 false=4∧WB m0 3 false=4∧Rq m0 3 false=false:=by decide +kernel
theorem L6:Xx m0 4 false=4∧WB m0 4 false=5∧Rq m0 4 false=false:=by decide +kernel
theorem UH:Rj m0 5 false 4=[255,255,255,255]∧RV m0 5 false 4=9∧Dh m0 5 false 4=false:=by decide +kernel
theorem Hg:rcV m0 9 false=0∧rcP m0 9 false=10∧ZM m0 9 false=false:=by decide +kernel
theorem aiQ{q:bW}{a b c d:UInt8}(h:Px.pb q=[a,b,c,d]):q=⟨a,b,c,d⟩:=by
 obtain⟨r,g,b',a'⟩:=q;simp only[Px.pb,awO,and_true]at h;obtain⟨rfl,rfl,rfl,rfl⟩:=h; rfl
set_option maxRecDepth 100000 in
set_option maxHeartbeats 1600000 in
theorem Jd{w:World}{v:Value}(hg:cO w)(h:iQ w v (dU.app m0)) :
  Calls prog 18 #[v] w fun e w'=>e = .returned (.tuple #[s0.v,.i 0])∧Ext w w':=by
 obtain⟨a,cap,rfl⟩:=h.shape;refine avU func18 ntmps18 fun ac S=>avP fun _ aV=>avQ S 2 [.i 0,.i 0,.u 0,.u 0,.u 0,.u 0,.sn] fun ac u b2 E3 hb4 S=>adr S 1 [] [(3,.i 0)] fun S=>apB<|aV _ _<|avP fun _ dA=>adr S 1 [] [(9,.slice a ((dU.app m0).length) cap)] (fun S=>?_);have hz0:=(S.bx 0).1;have hu0:=S.E.size;have hEq:=S.E;refine avV S (some 10) (Hf (aO.below h S.E) (by decide) (by rfl)) ?_;rintro e u ⟨rb,a1,c1,wm,rfl,hE0,hbm,hws,hE1,hXr⟩;refine⟨_,rfl,Ext.trans' hE0 hE1,fun ac S=>?_⟩;have hs0:=hE0.size;have EU:Ext w wm:=Ext.trans' hEq hE0;have E6:=Ext.trans' hE0 hE1;have S:=S.adopt (A:=[.slice a1 m0.length c1,.i (3:Nat),.z,.z]) hXr (by omega) (fun p hp=>by rcases aww.1 hp with rfl | hp; (intro e; simp only at e; omega); cases hp) (fun m hm=>by cases hm);refine adr S 5 [] [(4,.q rb 0),(5,.i 0)] fun S=>apB<|dA _ _<|awg fun _ jr=>avP fun _ dS=>adr S 2 [] [(14,.z)] fun S=>apB<|dS _ _<|av4 S<|awh<|jr _ _<|avP fun _ ig=>adr S 1 [] [(17,.q rb 0)] (fun S=>?_);have L8:=hE1;refine Sx.pV S 0 [.slice a1 m0.length c1,.i (4:Nat),.z,.z] (some 18) rfl (by have hc:=oK (l:=m0) (p:=3) L8 (S.bx 0) hws hbm (by decide); rw[LZ.2.1,LZ.2.2]at hc; exact hc) ?_;rintro e u ⟨rfl,Y1,aiR,aiS⟩;refine⟨_,rfl,Ext.trans' EU Y1,aiR,aiS,fun ac S=>?_⟩;have OU:=Y1;have aqz:=Y1.size;rw[LZ.1]at S;refine adr S 1 [] [(19,.agg #[.i 4,.i 0,.u 0,.u 0,.u 0,.u 0,.sn])] fun S=>avQ S 6 [.i 0,.i 0,.u 0,.u 0,.u 0,.u 0,.sn] fun ac u b12 Ad aif S=>avT S 0 (off:=0) (cs:=[.i 4,.i 0,.u 0,.u 0,.u 0,.u 0,.sn]) rfl (fun u C15 S=>?_);have E5:=avW Ad C15 (by omega);refine apB<|ig _ _<|avP fun _ gI=>adr S 1 [] [(20,.q rb 0)] (fun S=>?_);have L8:=((Ext.trans' OU E5));refine Sx.pV S 1 [.slice a1 m0.length c1,.i (5:Nat),.z,.z] (some 21) rfl (by have hc:=oK (l:=m0) (p:=4) L8 (S.bx 1) hws hbm (by decide); rw[L6.2.1,L6.2.2]at hc; exact hc) ?_;rintro e u ⟨rfl,wO,qB,BG⟩;refine⟨_,rfl,Ext.trans' EU wO,qB,BG,fun ac S=>?_⟩;have sN:=wO;have aqA:=wO.size;rw[L6.1]at S;refine adr S 1 [] [(22,.q b12 1)] fun S=>av1 S 0 (off:=1) (v := .i 4) rfl (fun u BH S=>?_);have wP:=(avW sN BH (by omega));refine apB<|gI _ _<|avP fun _ jm=>adr S 1 [] [(23,.q rb 0)] (fun S=>?_);have L8:=wP;refine Sx.pV S 1 [.slice a1 m0.length c1,.i (9:Nat),.z,.z] (some 24) rfl (by have hc:=wU (l:=m0) (p:=5) L8 (S.bx 1) hws hbm (by decide); rw[UH.2.1,UH.2.2]at hc; exact hc) ?_;rintro e u ⟨q,rfl,hq,UJ,acL,aiT⟩;obtain rfl:=aiQ (hq.trans UH.1);refine⟨_,rfl,Ext.trans' EU UJ,acL,aiT,fun ac S=>?_⟩;have acM:=UJ;have au6:=UJ.size;refine adr S 1 [] [(25,.q b12 2)] fun S=>avT S 0 (off:=2) (cs:=[.u 255,.u 255,.u 255,.u 255]) rfl (fun u KN S=>?_);have Aj:=(avW acM KN (by omega));refine apB<|jm _ _<|avP fun _ mV=>adr S 2 [] [(26,.q rb 0),(27,.q rb 0)] (fun S=>?_);have L8:=Aj;refine Sx.pV S 1 [.slice a1 m0.length c1,.i (10:Nat),.z,.z] (some 28) rfl (by have hc:=Df (l:=m0) (p:=9) L8 (S.bx 1) hws hbm (by decide); rw[Hg.2.1,Hg.2.2]at hc; exact hc) ?_;rintro e u ⟨rfl,Mc,Qo,acN⟩;refine⟨_,rfl,Ext.trans' EU Mc,Qo,acN,fun ac S=>?_⟩;have wH:=Mc;have aqB:=Mc.size;rw[Hg.1]at S;refine adr S 2 [] [(30,.func (.func 54) #[.q rb 0] #[])] fun S=>avZ S 31 (Ql (r := .q rb 0) (f := .func (.func 54) #[.q rb 0] #[])) fun ac u E30 S=>adr S 1 [] [(32,.q b12 6)] fun S=>av1 S 0 (off:=6) (v := .sn) rfl (fun u C31 S=>?_);have Eb:=(avW ((Ext.trans' wH E30)) C31 (by omega));refine apB<|mV _ _<|avP fun _ jO=>adr S 1 [.mem 0 0] [(34,.agg #[.i 4,.i 4,.u 255,.u 255,.u 255,.u 255,.sn])] fun S=>avV S (some 35) (yZ (K:=20) (WC _) (cO.below hg S.E) rfl Qm) ?_;rintro e u ⟨v35,rfl,acO,Gp⟩;refine⟨_,rfl,Gp,fun ac S=>?_⟩;refine adr S 5 [] [(5,.i 0),(7,v35)] fun S=>apB<|jO _ _<|awg fun _ oD=>avP fun _ lg=>adr S 11 [.mem 1 2] [(46,.z),(47,v35),(48,.slice a ((dU.app m0).length) cap)] fun S=>Sx.lW S (some 49) ((by have hc:=av8 (jP _ _ (dU.app (scB s0)) (dU.app m0) u (kZ (acO)) (fO (aO.below h S.E))); rw[Qn,show(dU.app m0==dU.app m0)=true from by simp]at hc; exact hc)) ?_;rintro e u ⟨rfl,Jy⟩;refine⟨_,rfl,Jy,fun ac S=>?_⟩;refine adr S 2 [] [(51,.z)] fun S=>apB<|lg _ _<|av4 S<|awh<|oD _ _<|avP fun _ jD=>adr S 1 [.mem 0 0] [(53,.agg #[.i 4,.i 4,.u 255,.u 255,.u 255,.u 255,.sn])] fun S=>avT S 2 (off:=0) (cs:=[.i 4,.i 4,.u 255,.u 255,.u 255,.u 255,.sn]) rfl fun u C39 S=>adr S 1 [] [(3,.i 0)] fun S=>apB<|jD _ _<|awq ?_;refine Sx.Dc S 2 results18 rfl (v:=s0.v) (u := .i 0) ⟨rfl,S.E⟩
end
end Go.Proofs.YtapmgonflgahbaaGreatDoor
