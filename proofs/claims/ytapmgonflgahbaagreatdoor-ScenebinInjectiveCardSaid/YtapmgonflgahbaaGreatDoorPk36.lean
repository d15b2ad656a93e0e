/- Encoding: ints, colors, scenes without nodes. Reading: int, count, open. -/
import Derived.Test.YtapmgonflgahbaaGreatDoorPk35
set_option linter.unusedVariables false
namespace Go.Proofs.YtapmgonflgahbaaGreatDoor
open _root_.Go.Proofs.Tryz
section
set_option maxHeartbeats 1600000
set_option maxRecDepth 100000
open Go.RowKit
variable{α:Type}{K:Nat}
def dH(L:List Int):List UInt8:=L.flatMap fun x=>En.fE 10 (En.zig x)
theorem RF{L:List Int}{k:Nat}{x:Int}(hk:k<L.length)(hx:L[k]=x):dH (L.take (k+1))=dH (L.take k)++En.fE 10 (En.zig x):=by
 unfold dH;rw[ajc hk,hx,List.flatMap_append]; simp
theorem fM(L:List Int):(dH L).length≤10*L.length:=by
 induction L with
 | nil=>simp[dH]
 | cons x L ih=>unfold dH at *; rw[ajy,aif,aiO]; have:=En.jk 10 (En.zig x); omega
abbrev Wx (w:World)(v:Value)(L:List Int):Prop:=aN 1 (fun x:Int=>[.i x]) w v L
theorem fK{w:World}{v:Value}{L:List Int}(h:Wx w v L)(hb:∀x∈L,I64 x)(hn:L.length≤1000000) :
  Calls prog 33 #[v] w fun e w'=>∃v',e = .returned v'∧OwnB w.heap.size w' v' (dH L)∧Ext w w':=by
 obtain⟨a,cap,rfl⟩:=h.shape;have hmax:L.length≤9223372036854775807:=h.len;refine ahO func33 ntmps33 fun ac S=>ahK fun _ aY=>adr S 1 [] [(2,.sn)] fun S=>ahJ<|aY _ _<|ahK fun _ fA=>adr S 1 [] [(3,.sn)] fun S=>ahJ<|fA _ _<|ah2 fun _ jw=>ahK (fun _ nT=>?_);have R:=ai2 S;have R:=Jy R;refine adr S 3 [] [(6,.slice a L.length cap),(7,.i L.length),(8,.i 0)] fun S=>ahJ<|nT _ _<|ah5 ?_;refine aiM (ι:=Nat×Value) (fun p a' w'=>p.1≤L.length∧(True)∧Sx.Rw w w' [] [⟨5,1,p.2,(dH (L.take p.1)).length,(dH (L.take p.1)).map dQ⟩]∧Sx.St w a' w' 18 [(0,.slice a L.length cap),(2,.sn),(3,p.2),(6,.slice a L.length cap),(7,.i L.length),(8,.i p.1)] [] []) (fun p=>L.length-p.1) (0,(.sn)) ⟨aij _,trivial,R,S.sn⟩ ?_;rintro⟨k,v⟩ ac u hI;try dsimp only at hI
 obtain⟨hk,hR,R,S⟩:=hI;refine ahK fun _ dw=>adr S 1 [] [(9,.bool ((k:Int)<(L.length:Int)))] fun S=>ahJ<|dw _ _<|ah2 (fun _ iT=>?_);refine ahN S (fun vT=>?_) (fun vT=>?_)
 ·refine ah4<|iT _ _<|ah2 fun _ dR=>ah5<|ahK (fun _ iD=>?_);have qm:k<L.length:=by have:=ain vT; omega
  obtain⟨b10,o11,rfl,x16,vS,Lj,FT⟩:=aiy h (fun _=>rfl) (k) qm;have S:=S.view0 Lj FT;refine adr S 3 [.idx k L.length,.mem 0 0] [(5,.i x16)] (hk:=⟨qm,trivial⟩) fun S=>ahJ<|iD _ _<|aia<|adr S 2 [] [(12,v),(13,.i x16)] fun S=>ahQ S (some 14) (uQ x16 _ (hb x16 (by rw[←vS]; exact aiD _)).1 (hb x16 (by rw[←vS]; exact aiD _)).2) ?_;rintro e u ⟨v14,rfl,agb,tZ⟩;refine⟨_,rfl,tZ,fun ac S=>?_⟩;have hvl:=fM (L.take k);rw[ake]at hvl;have hu9:(En.fE 10 (En.zig x16)).length≤10:=En.jk 10 _;obtain⟨R,Y19⟩:=R.bZ S (ait tZ);refine Sx.app S R 0 15 rfl pY (jh (agb)) (by show(dH (L.take k)).length+(En.fE 10 (En.zig x16)).length≤9223372036854775807; omega) (by show((dH (L.take k)).length+(En.fE 10 (En.zig x16)).length)*1≤140737488355328; omega) fun ac u v20 X21 R S=>adr S 1 [] [(3,v20)] fun S=>ahJ<|dR _ _<|aia<|adr S 2 [.re 16 (.i (IntKind.i64.wrap ((k:Int)+1))) (.i (k+1:Nat))] [(8,.i (k+1:Nat))] (hk:=⟨ahY (by omega),trivial⟩) fun S=>ahJ ?_;show ∃i',_∧_;exact⟨((k+1),v20),⟨by omega,trivial,R.as (show [(⟨5,1,v20,((dH (L.take k)).length+(En.fE 10 (En.zig x16)).length),((dH (L.take k)).map dQ++(En.fE 10 (En.zig x16)).map dQ)⟩:Sx.Row)]=[⟨5,1,v20,(dH (L.take (k+1))).length,(dH (L.take (k+1))).map dQ⟩] by rw[RF qm vS]; simp),S.sn⟩,by show _-_<_-_; omega⟩
 refine ail<|jw _ _<|ahK fun _ kW=>adr S 2 [] [(2,v)] fun S=>ahJ<|kW _ _<|ahM S results33 ?_;exact⟨_,rfl,by have:=R.own _ aiB; rw[aiC (by have:=aiu vT; omega)]at this; exact this,S.E⟩
theorem qO{w:World}{p:dA} :
  Calls prog 34 #[.agg p.cells.toArray] w fun e w'=>∃v,e = .returned v∧OwnB w.heap.size w' v (Px.pb p)∧Ext w w':=by
 skip;refine ahO func34 ntmps34 fun ac S=>ahK fun _ aY=>ahL S 1 p.cells fun ac u b2 E3 hb4 S=>adr S 1 [] [(2,.sn)] fun S=>ahJ<|aY _ _<|ahK fun _ dw=>adr S 8 [.mem 0 0,.mem 0 1,.mem 0 2,.mem 0 3] [(4,.u (p.r.toNat:Int)),(6,.u (p.g.toNat:Int)),(8,.u (p.b.toNat:Int)),(10,.u (p.a.toNat:Int))] (fun S=>?_);have R:=ai2 S;refine Sx.newRow S R 11 4 5 1 p.cells fun ac u v6 E7 X8 R S=>adr S 1 [] [(2,v6)] fun S=>ahJ<|dw _ _<|ahM S results34 ?_;exact⟨_,rfl,R.own _ aiB,S.E⟩
theorem RG{w:World}{v f:Value}{a:Option Addr}{c:Nat} :
  Calls prog 78 #[v,.slice a 0 c,f] w fun e w'=>e = .returned v∧Ext w w':=by
 skip;refine ahO func78 ntmps78 fun ac S=>ahK fun _ aY=>adr S 1 [] [(6,.sn)] fun S=>ahJ<|aY _ _<|ah2 fun _ fA=>ahK fun _ jw=>adr S 3 [] [(9,.slice a 0 c),(10,.i 0),(11,.i 0)] fun S=>ahJ<|jw _ _<|ah5<|ajo 1 ?_;rw[aio];refine ahK fun _ nT=>adr S 1 [] [(12,.z)] fun S=>ahJ<|nT _ _<|ah2 fun _ dw=>ahX S<|ail<|fA _ _<|ahK fun _ iT=>adr S 2 [] [(6,v)] fun S=>ahJ<|iT _ _<|ahM S results78 ?_;exact⟨rfl,S.E⟩
theorem RH{w:World}{f:Value}{a:Option Addr}{c:Nat} :
  Calls prog 35 #[.slice a 0 c,f] w fun e w'=>∃v,e = .returned v∧OwnB w.heap.size w' v [0]∧Ext w w':=by
 skip;refine ahO func35 ntmps35 fun ac S=>ahK fun _ aY=>adr S 1 [] [(4,.sn)] fun S=>ahJ<|aY _ _<|ahK fun _ fA=>adr S 3 [] [(7,.int .u64 0)] fun S=>ahQ S (some 8) (eH 0 _ (by omega)) ?_;rintro e u ⟨v8,rfl,Uh,E3⟩;refine⟨_,rfl,E3,fun ac S=>?_⟩;refine adr S 2 [] [(9,.slice a 0 c),(10,f)] fun S=>ahS S 11 (RG (v:=v8) (f:=f) (a:=a) (c:=c)) fun ac u E4 S=>adr S 1 [] [(4,v8)] fun S=>ahJ<|fA _ _<|ahM S results35 ?_;exact⟨_,rfl,(Sx.bM Uh E4),S.E⟩
def XK(s:bC):List UInt8:=[71,83,49]++dH [s.w,s.h]++Px.pb s.bg++[0]
theorem OV{s:bC}:(XK s).length=3+(dH [s.w,s.h]).length+4+1:=by simp[XK,Px.pb]; omega
theorem Za{s:bC}:(XK s).map dQ=[.u 71,.u 83,.u 49]++(dH [s.w,s.h]).map dQ++(Px.pb s.bg).map dQ++[dQ 0]:=by
 unfold XK; rw[aiZ,aiZ,aiZ]; rfl
theorem uY{w:World}{s:bC}(h:gQ K w s)(hg:bW w)(hns:s.ns=[])(hv:s.key.valid=true) :
  Calls prog 12 #[s.v] w fun e w'=>∃v,e = .returned (.tuple #[v,.i 0])∧OwnB w.heap.size w' v (dL.app (XK s))∧Ext w w':=by
 skip;refine ahO func12 ntmps12 fun ac S=>ahK fun _ aY=>ahL S 1 s.cells fun ac u b2 E3 hb4 S=>adr S 2 [] [(2,.sn),(3,.i 0)] fun S=>ahJ<|aY _ _<|ah2 fun _ dw=>ahK fun _ iT=>adr S 1 [.mem 0 0] [(5,s.v)] fun S=>ahS S 6 (y9 (h.below S.E) (bW.below hg S.E)) fun ac u E7 S=>adr S 1 [] [(7,.bool (!s.key.valid))] fun S=>ahJ (iT _ _ ?_);refine ahN S (fun hc8=>?_) (fun hc8=>?_)
 ·refine ahK fun _ iD=>adr S 2 [] [(2,.sn),(3,.i 18)] fun S=>ahJ<|iD _ _<|aii ?_;rw[hv]at hc8; simp at hc8
 refine ah4<|dw _ _<|ahK (fun _ gu=>?_);have R:=ai2 S;refine Sx.lit S 8 9 3 [.u 71,.u 83,.u 49] 49 5 underlying49 underlying5 fun{ac u b13} wL qM S=>adr S 4 [.mem 0 0,.mem 0 1] [(11,.i s.w),(13,.i s.h)] fun S=>ah6 S 14 2 [.i s.w,.i s.h] fun ac u b14 FX hb16 S=>ahQ S (some 15) (fK (L:=[s.w,s.h]) (Sx.iW (f:=fun x:Int => .i x) [s.w,s.h] (S.bx 0) (by simp[maxLen])) (fun x hx=>by simp at hx; rcases hx with rfl | rfl; exact h.1; exact h.2.1) (by simp)) ?_;rintro e u ⟨v15,rfl,Uk,yu⟩;refine⟨_,rfl,yu,fun ac S=>?_⟩;have hvl:=fM [s.w,s.h];have hvn:0<(dH [s.w,s.h]).length:=by unfold dH; rw[ajy,aif]; have h1:0<(En.fE 10 (En.zig s.w)).length:=En.xu 9 _; omega
 simp only[aiO,ai8]at hvl;obtain⟨R,Y18⟩:=R.bZ S (aiF (ait wL) (aiF (ajf FX hb16) (ait yu)));refine Sx.YN S R 16 pY ((dS.below qM (Ext.trans' FX yu))) (jh (Uk)) (by omega) (by omega) (by simp[maxLen]<;>omega) (by omega) fun ac u v19 Aa X21 R S=>adr S 1 [] [(4,v19)] fun S=>ahJ<|gu _ _<|ahK fun _ kW=>adr S 3 [.mem 1 2] [(17,v19),(19,.agg s.bg.cells.toArray)] fun S=>ahQ S (some 20) (qO (p:=s.bg)) ?_;rintro e u ⟨v20,rfl,abX,PK⟩;refine⟨_,rfl,PK,fun ac S=>?_⟩;obtain⟨R,Y24⟩:=R.bZ S (ait PK);refine Sx.app S R 0 21 rfl pY (jh (abX)) (by show 3+(dH [s.w,s.h]).length+4≤9223372036854775807; omega) (by show(3+(dH [s.w,s.h]).length+4)*1≤140737488355328; omega) fun ac u v25 X26 R S=>adr S 1 [] [(4,v25)] fun S=>ahJ<|kW _ _<|ahK fun _ l9=>adr S 5 [.mem 1 6] [(22,v25),(24,s.s),(26,.func (.func 36) #[.agg #[.z]] #[])] (fun S=>?_);have hs0:s.s = .slice s.nsa 0 s.nsc:=by unfold bC.s; rw[hns]; rfl
 refine ahQ S (some 27) ((by have hc:=RH (w:=u) (f := .func (.func 36) #[.agg #[.z]] #[]) (a:=s.nsa) (c:=s.nsc); rw[←hs0]at hc; exact hc)) ?_;rintro e u ⟨v27,rfl,abY,E28⟩;refine⟨_,rfl,E28,fun ac S=>?_⟩;obtain⟨R,Y29⟩:=R.bZ S (ait E28);refine Sx.app S R 0 28 rfl pY (jh (abY)) (by show 3+(dH [s.w,s.h]).length+4+1≤9223372036854775807; omega) (by show(3+(dH [s.w,s.h]).length+4+1)*1≤140737488355328; omega) fun ac u v30 X31 R S=>adr S 1 [] [(4,v30)] fun S=>ahJ<|l9 _ _<|ahK fun _ mG=>adr S 1 [] [(29,v30)] (fun S=>?_);have hout:OwnB w.heap.size u v30 (XK s):=by have:=R.own _ aiB; unfold OwnB; rw[OV,Za]; exact this
 have hol:(XK s).length≤1000:=by rw[OV]; omega
 have S0:=S.E.size;refine ahQ S (some 30) (tJ _ (XK s) _ (pX hout) (by omega)) ?_;rintro e u ⟨v30,rfl,Wy,E33⟩;refine⟨_,rfl,E33,fun ac S=>?_⟩;refine adr S 2 [] [(2,v30),(3,.i 0)] fun S=>ahJ<|mG _ _<|Sx.rt2 S results12 ?_;exact⟨_,rfl,aQ (Wy) S0,S.E⟩
end
section
set_option maxHeartbeats 1600000
set_option maxRecDepth 100000
open Go.RowKit
variable{α:Type}{K:Nat}
theorem abZ{l:List UInt8}{p:Nat}(hp:p≤l.length):(En.yS l (p:Int)).2.1≤l.length:=by
 cases h:En.yS l (p:Int)with
 | mk k r =>
  obtain⟨x,er⟩:=r;by_cases he:er=0
  ·subst he; obtain⟨c,-,-,h2,-⟩:=Px.ok1 hp h; exact h2
  rw[Px.VX hp]at h;split at h
  ·simp only[aie]at h; omega
  simp only[aie]at h; show x≤_; omega
def ML(l:List UInt8)(p:Nat)(bad:Bool):Bool:=bad||(En.Yq l (p:Int)).2.2 != 0
def WA(l:List UInt8)(p:Nat)(bad:Bool):Nat:=if ML l p bad=true then p else (En.Yq l (p:Int)).2.1
def WB(l:List UInt8)(p:Nat)(bad:Bool):Int:=if ML l p bad=true then 0 else (En.Yq l (p:Int)).1
theorem ab1{l:List UInt8}{p:Nat}:I64 (En.Yq l (p:Int)).1:=by
 have:=En.VD (n:=(En.yS l (p:Int)).1) (KT l p);exact this
theorem ab2{l:List UInt8}{p nx er:Nat}{x:Int}{bad:Bool}(hu:En.Yq l (p:Int)=(x,nx,er))(h:(bad || !decide ((er:Int)=0))=true):ML l p bad=true∧WA l p bad=p∧WB l p bad=0:=by
 have:ML l p bad=true:=by
  unfold ML; rw[hu];cases bad
  ·simp at h ⊢; omega
  rfl
 unfold WA WB; rw[aib this,aib this]; exact⟨this,rfl,rfl⟩
theorem adY{l:List UInt8}{p nx er:Nat}{x:Int}{bad:Bool}(hu:En.Yq l (p:Int)=(x,nx,er))(h:(bad || !decide ((er:Int)=0))=false):bad=false∧ML l p bad=false∧WA l p bad=nx∧WB l p bad=x:=by
 have:bad=false∧ML l p bad=false:=by
  unfold ML; rw[hu];cases bad
  ·simp at h ⊢; omega
  simp at h
 unfold WA WB; rw[this.2,hu]; exact⟨this.1,rfl,by simp,by simp⟩
def XL(l:List UInt8)(p:Nat)(bad:Bool):Bool:=bad||((En.yS l (p:Int)).2.2 != 0||decide (l.length-(En.yS l (p:Int)).2.1<(En.yS l (p:Int)).1))
def rcP(l:List UInt8)(p:Nat)(bad:Bool):Nat:=if XL l p bad=true then p else (En.yS l (p:Int)).2.1
def rcV(l:List UInt8)(p:Nat)(bad:Bool):Nat:=if XL l p bad=true then 0 else (En.yS l (p:Int)).1
theorem ab3{l:List UInt8}{p k nx er:Nat}{bad:Bool}(hu:En.yS l (p:Int)=(k,nx,er))(h:¬(bad=false∧er=0∧k≤l.length-nx)):XL l p bad=true∧rcP l p bad=p∧rcV l p bad=0:=by
 have:XL l p bad=true:=by
  unfold XL; rw[hu];cases bad
  ·simp at h ⊢; omega
  rfl
 unfold rcP rcV; rw[aib this,aib this]; exact⟨this,rfl,rfl⟩
theorem adZ{l:List UInt8}{p k nx er:Nat}{bad:Bool}(hu:En.yS l (p:Int)=(k,nx,er))(h:bad=false∧er=0∧k≤l.length-nx):XL l p bad=false∧rcP l p bad=nx∧rcV l p bad=k:=by
 have:XL l p bad=false:=by
  unfold XL; rw[hu];obtain⟨rfl,rfl,h⟩:=h;simp; omega
 unfold rcP rcV; rw[this,hu]; exact⟨rfl,by simp,by simp⟩
theorem oC(v u:Value)(l m:List UInt8)(w:World)(hv:bH w v l)(hu:bH w u m) :
  Calls prog 55 #[v,u] w fun e w'=>e = .returned (.bool (l==m))∧w=w':=by
 have s1:=nS (P:=prog) (src:=49) (e:=5) (dst:=9) underlying49 underlying5 underlying9 hv;have s2:=nS (P:=prog) (src:=49) (e:=5) (dst:=9) underlying49 underlying5 underlying9 hu;clear hv hu;go_enter func55,ntmps55
 go_wp2_with fail
 go_ret
 exact⟨rfl,rfl⟩
theorem nP{w0 w:World}{b p cap:Nat}{a:Option Addr}{bad pk:Bool}{l:List UInt8}(hE:Ext w0 w)(hx:Bx w b #[.slice a l.length cap,.i p,.bool bad,.bool pk])(hb:w0.heap.size≤b)(h:kZ w0 (.slice a l.length cap) l)(hp:p≤l.length) :
  Calls prog 50 #[.q b 0] w fun e w'=>e = .returned (.i (WB l p bad))∧Ext w0 w'∧Ch b w w'∧Bx w' b #[.slice a l.length cap,.i (WA l p bad:Nat),.bool (ML l p bad),.bool pk]:=by
 skip;refine Sx.vJ func50 ntmps50 hE hx hb fun ac S=>ahK fun _ aY=>adr S 1 [] [(2,.i 0)] fun S=>ahJ<|aY _ _<|ah2 (fun _ fA=>?_);obtain⟨xv,nx,er,hu⟩:∃xv nx er,En.Yq l (p:Int)=(xv,nx,er):=⟨_,_,_,rfl⟩;have hwb:I64 xv:=by have:=@ab1 l p; rw[hu]at this; exact this
 refine ahW S 15 [.mem 0 0,.mem 0 1] [(_,_,true,.tuple #[.i xv,.i nx,.i er])] [(3,.i xv),(4,.i nx),(18,.i er)] ⟨fun u hC g=>(by have hc:=KW (.slice a l.length cap) l (p:Int) _ (gY (aN.below h (Ext.trans' S.E hC))); rw[hu]at hc; exact hc),trivial⟩ fun ac u E3 S=>adr S 1 [] [(5,.i er)] fun S=>ahJ<|fA _ _<|ah2 fun _ nT=>ahK fun _ dw=>adr S 8 [.mem 0 2] [(26,.bool (bad||(((er:Int)) != 0)))] fun S=>ahJ (dw _ _ ?_);refine ahN S (fun hc6=>?_) (fun hc6=>?_)
 ·refine ahK fun _ iL=>adr S 3 [] [(29,.q b 2)] fun S=>ah3 S 0 (off:=2) (v := .bool true) rfl (fun u C8 S=>?_);have Fs9:=(lX ((Ch.trans (Ch.refl b w) (Ch.iE E3))) C8 (by first | exact .inl rfl | exact .inr (by omega)));refine ahJ<|iL _ _<|ahK fun _ gu=>adr S 1 [] [(2,.i 0)] fun S=>ahJ<|gu _ _<|aii ?_;have hq:(bad || !decide ((er:Int)=0))=true:=by cases bad<;>simp at hc6 ⊢ <;> omega
  obtain⟨q1,q2,q3⟩:=ab2 hu hq;refine ahU S results50 ?_;exact⟨by rw[q3],S.E,Fs9,by rw[q1,q2]; have:=S.bx 0; exact this⟩
 refine ah4<|nT _ _<|ahK fun _ dO=>adr S 4 [] [(31,.i nx),(33,.q b 1)] fun S=>ah3 S 0 (off:=1) (v := .i nx) rfl (fun u C12 S=>?_);have VG:=(lX ((Ch.trans (Ch.refl b w) (Ch.iE E3))) C12 (by first | exact .inl rfl | exact .inr (by omega)));refine ahJ<|dO _ _<|ahK fun _ gU=>adr S 2 [] [(2,.i xv)] fun S=>ahJ<|gU _ _<|aii ?_;have hq:(bad || !decide ((er:Int)=0))=false:=by cases bad<;>simp at hc6 ⊢ <;> omega
 obtain⟨q0,q1,q2,q3⟩:=adY hu hq;refine ahU S results50 ?_;exact⟨by rw[q3],S.E,VG,by rw[q1,q2]; have:=S.bx 0; rw[q0]at this; exact this⟩
theorem JJ{w0 w:World}{b p cap:Nat}{a:Option Addr}{bad pk:Bool}{l:List UInt8}(hE:Ext w0 w)(hx:Bx w b #[.slice a l.length cap,.i p,.bool bad,.bool pk])(hb:w0.heap.size≤b)(h:kZ w0 (.slice a l.length cap) l)(hp:p≤l.length) :
  Calls prog 53 #[.q b 0] w fun e w'=>e = .returned (.i (rcV l p bad:Nat))∧Ext w0 w'∧Ch b w w'∧Bx w' b #[.slice a l.length cap,.i (rcP l p bad:Nat),.bool (XL l p bad),.bool pk]:=by
 have hml:l.length≤9223372036854775807:=h.len;refine Sx.vJ func53 ntmps53 hE hx hb fun ac S=>ahK fun _ aY=>adr S 1 [] [(2,.i 0)] fun S=>ahJ<|aY _ _<|ah2 (fun _ fA=>?_);obtain⟨kk,nx,er,hu⟩:∃kk nx er,En.yS l (p:Int)=(kk,nx,er):=⟨_,_,_,rfl⟩;have hnx:nx≤l.length:=by have:=@abZ l p hp; rw[hu]at this; exact this
 have hkb:kk<18446744073709551616:=by have:=KT l (p:Int); rw[hu]at this; exact this
 refine ahW S 15 [.mem 0 0,.mem 0 1] [(_,_,true,.tuple #[.int .u64 (kk:Int),.i nx,.i er])] [(3,.int .u64 (kk:Int)),(4,.i nx),(18,.i er)] ⟨fun u hC g=>(by have hc:=yT (.slice a l.length cap) l (p:Int) _ (gY (aN.below h (Ext.trans' S.E hC))); rw[hu]at hc; exact hc),trivial⟩ fun ac u E3 S=>adr S 1 [] [(5,.i er)] fun S=>ahJ<|fA _ _<|ah2 fun _ nT=>ahK fun _ dw=>adr S 20 [.mem 0 2,.mem 0 0,.re 35 (.i (IntKind.i64.wrap ((l.length:Int)-(nx:Int)))) (.i (l.length-nx:Nat)),.re 36 (.int .u64 (IntKind.u64.wrap ((l.length-nx:Nat):Int))) (.int .u64 ((l.length-nx:Nat):Int))] [(38,.bool ((bad||(((er:Int)) != 0))||(decide (((l.length-nx:Nat):Int)<(kk:Int)))))] (hk:=⟨(Sx.lG (by omega) (by omega)),(wrap_u64 (by omega)),trivial⟩) fun S=>ahJ (dw _ _ ?_);refine ahN S (fun hc6=>?_) (fun hc6=>?_)
 ·refine ahK fun _ iL=>adr S 3 [] [(41,.q b 2)] fun S=>ah3 S 0 (off:=2) (v := .bool true) rfl (fun u C8 S=>?_);have Fs9:=(lX ((Ch.trans (Ch.refl b w) (Ch.iE E3))) C8 (by first | exact .inl rfl | exact .inr (by omega)));refine ahJ<|iL _ _<|ahK fun _ gu=>adr S 1 [] [(2,.i 0)] fun S=>ahJ<|gu _ _<|aii ?_;have hq:¬(bad=false∧er=0∧kk≤l.length-nx):=by rintro⟨h1,h2,h3⟩; rw[h1]at hc6; simp at hc6<;>omega
  obtain⟨q1,q2,q3⟩:=ab3 hu hq;refine ahU S results53 ?_;exact⟨by rw[q3]<;>rfl,S.E,Fs9,by rw[q1,q2]; have:=S.bx 0; exact this⟩
 refine ah4<|nT _ _<|ahK (fun _ dO=>?_);have hq:bad=false∧er=0∧kk≤l.length-nx:=by cases bad<;>simp at hc6 ⊢ <;> omega
 refine adr S 4 [] [(43,.i nx),(45,.q b 1)] fun S=>ah3 S 0 (off:=1) (v := .i nx) rfl (fun u C12 S=>?_);have VG:=(lX ((Ch.trans (Ch.refl b w) (Ch.iE E3))) C12 (by first | exact .inl rfl | exact .inr (by omega)));refine ahJ<|dO _ _<|ahK fun _ gU=>adr S 3 [.re 47 (.i (IntKind.i64.wrap (kk:Int))) (.i kk)] [(2,.i kk)] (hk:=⟨(Sx.lG rfl (by omega)),trivial⟩) fun S=>ahJ<|gU _ _<|aii ?_;obtain⟨q1,q2,q3⟩:=adZ hu hq;refine ahU S results53 ?_;exact⟨by rw[q3]<;>rfl,S.E,VG,by rw[q1,q2]; have:=S.bx 0; rw[hq.1]at this; exact this⟩
theorem JK{w:World}{r f:Value} :
  Calls prog 52 #[r,.i 0,f] w fun e w'=>e = .returned (.sn)∧Ext w w':=by
 skip;refine ahO func52 ntmps52 fun ac S=>ahK fun _ aY=>adr S 1 [] [(6,.sn)] fun S=>ahJ<|aY _ _<|ahK fun _ fA=>adr S 1 [] [(7,.sn)] fun S=>ahJ<|fA _ _<|ah2 fun _ jw=>ahK fun _ nT=>adr S 2 [] [(8,.i 0),(9,.i 0)] fun S=>ahJ<|nT _ _<|ah5<|ajo 1 ?_;rw[aio];refine ahK fun _ dw=>adr S 1 [] [(10,.z)] fun S=>ahJ<|dw _ _<|ah2 fun _ iT=>ahX S<|ail<|jw _ _<|ahK fun _ iL=>adr S 2 [] [(6,.sn)] fun S=>ahJ<|iL _ _<|ahM S results52 ?_;exact⟨rfl,S.E⟩
theorem uZ{w:World}{v v':Value}{l m:List UInt8}(h:kZ w v l)(h':kZ w v' m) :
  Calls prog 102 #[v,v'] w fun e w'=>e = .returned (.bool (decide (m.length≤l.length)&&(l.take m.length==m)))∧Ext w w':=by
 obtain⟨a,cap,rfl⟩:=h.shape;obtain⟨d,cap',rfl⟩:=h'.shape;refine ahO func102 ntmps102 fun ac S=>ahK fun _ aY=>adr S 1 [] [(4,.z)] fun S=>ahJ<|aY _ _<|ahK (fun _ fA=>?_);by_cases hq:m.length≤l.length
 ·have hcap:=Sx.Jr h;refine adr S 11 [.re 9 (.bool ((m.length:Int)≤(l.length:Int))) (.bool true),.slc 0 m.length cap cap] [(10,.bool true),(14,.slice (Sx.OG a 0 cap 1) m.length cap),(15,.slice d m.length cap')] (hk:=⟨(aic Value.bool (ajd (by omega))),(by omega),trivial⟩) fun S=>Sx.yG S (some 16) (ah0 (oC _ _ (l.take m.length) m _ (gY (aN.below (Sx.BR h (l:=0) (h':=m.length) (m:=cap) (by omega) hq (by omega) (by omega)) S.E)) (gY (aN.below h' S.E)))) ?_;rintro e u ⟨rfl,E3⟩;refine⟨_,rfl,E3,fun ac S=>?_⟩;refine adr S 2 [] [(4,.bool (l.take m.length==m))] fun S=>ahJ<|fA _ _<|ahM S results102 ?_;exact⟨aic (fun b=>Ending.returned (Value.bool b)) (by rw[ajd hq,ajw]),S.E⟩
 refine adr S 14 [.re 9 (.bool ((m.length:Int)≤(l.length:Int))) (.z),.dead 11 (.z),.dead 12 (.z),.dead 13 (.z),.dead 14 (.z),.dead 15 (.z),.dead 16 (.z)] [(4,.z)] (hk:=⟨(aic Value.bool (ajx (by omega))),trivial⟩) fun S=>ahJ<|fA _ _<|ahM S results102 ?_;exact⟨aic (fun b=>Ending.returned (Value.bool b)) (by rw[ajx hq,ajN]),S.E⟩
end
end Go.Proofs.YtapmgonflgahbaaGreatDoor
