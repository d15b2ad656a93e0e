/- Encoding: ints, colors, scenes without nodes. Reading: -/
import Derived.Test.YtapmgonflgahbaaGreatDoorPk33
set_option linter.unusedVariables false
namespace Go.Proofs.YtapmgonflgahbaaGreatDoor
open _root_.Go.Proofs.Tryz
section
set_option maxHeartbeats 1600000
set_option maxRecDepth 100000
open Go.RowKit
variable{α:Type}{K:Nat}
def bH(L:List Int):List UInt8:=L.flatMap fun x=>En.dP 10 (En.zig x)
theorem Xu{L:List Int}{k:Nat}{x:Int}(hk:k<L.length)(hx:L[k]=x):bH (L.take (k+1))=bH (L.take k)++En.dP 10 (En.zig x):=by
 unfold bH;rw[aoZ hk,hx,aql]; simp
theorem fJ(L:List Int):(bH L).length≤10*L.length:=by
 induction L with
 | nil=>simp[bH]
 | cons x L ih=>unfold bH at *; rw[apn,an5,aop]; have:=En.iE 10 (En.zig x); omega
abbrev SH (w:World)(v:Value)(L:List Int):Prop:=aV 1 (fun x:Int=>[.i x]) w v L
theorem iC{w:World}{v:Value}{L:List Int}(h:SH w v L)(hb:∀x∈L,I64 x)(hn:L.length≤1000000) :
  Calls prog 33 #[v] w fun e w'=>∃v',e = .returned v'∧OwnB w.heap.size w' v' (bH L)∧Ext w w':=by
 obtain⟨a,cap,rfl⟩:=h.shape;have hmax:L.length≤9223372036854775807:=h.len;refine anA func33 ntmps33 fun ac S=>anv fun _ aS=>adr S 1 [] [(2,.sn)] fun S=>anu<|aS _ _<|anv fun _ eP=>adr S 1 [] [(3,.sn)] fun S=>anu<|eP _ _<|anV fun _ jv=>anv (fun _ oq=>?_);have R:=aoz S;have R:=Pv R;refine adr S 3 [] [(6,.slice a L.length cap),(7,.i L.length),(8,.i 0)] fun S=>anu<|oq _ _<|an1 ?_;refine aow (ι:=Nat×Value) (fun p a' w'=>p.1≤L.length∧(True)∧Sx.Rw w w' [] [⟨5,1,p.2,(bH (L.take p.1)).length,(bH (L.take p.1)).map dY⟩]∧Sx.St w a' w' 18 [(0,.slice a L.length cap),(2,.sn),(3,p.2),(6,.slice a L.length cap),(7,.i L.length),(8,.i p.1)] [] []) (fun p=>L.length-p.1) (0,(.sn)) ⟨aoa _,trivial,R,S.sn⟩ ?_;rintro⟨k,v⟩ ac u hI;try dsimp only at hI
 obtain⟨hk,hR,R,S⟩:=hI;refine anv fun _ bM=>adr S 1 [] [(9,.bool ((k:Int)<(L.length:Int)))] fun S=>anu<|bM _ _<|anV (fun _ iL=>?_);refine anx S (fun mG=>?_) (fun mG=>?_)
 ·refine anZ<|iL _ _<|anV fun _ eu=>an1<|anv (fun _ ig=>?_);have qX:k<L.length:=by have:=aoe mG; omega
  obtain⟨b10,o11,rfl,x16,wG,Ku,EW⟩:=aom h (fun _=>rfl) (k) qX;have S:=S.view0 Ku EW;refine adr S 3 [.idx k L.length,.mem 0 0] [(5,.i x16)] (hk:=⟨qX,trivial⟩) fun S=>anu<|ig _ _<|an3<|adr S 2 [] [(12,v),(13,.i x16)] fun S=>anB S (some 14) (yT x16 _ (hb x16 (by rw[←wG]; exact aot _)).1 (hb x16 (by rw[←wG]; exact aot _)).2) ?_;rintro e u ⟨v14,rfl,ajU,uY⟩;refine⟨_,rfl,uY,fun ac S=>?_⟩;have hvl:=fJ (L.take k);rw[ap3]at hvl;have hu9:(En.dP 10 (En.zig x16)).length≤10:=En.iE 10 _;obtain⟨R,Y19⟩:=R.aT S (aoc uY);refine anW S R 0 15 rfl nX (jL (ajU)) (by show(bH (L.take k)).length+(En.dP 10 (En.zig x16)).length≤9223372036854775807; omega) (by show((bH (L.take k)).length+(En.dP 10 (En.zig x16)).length)*1≤140737488355328; omega) fun ac u v20 X21 R S=>adr S 1 [] [(3,v20)] fun S=>anu<|eu _ _<|an3<|adr S 2 [.re 16 (.i (IntKind.i64.wrap ((k:Int)+1))) (.i (k+1:Nat))] [(8,.i (k+1:Nat))] (hk:=⟨anJ (by omega),trivial⟩) fun S=>anu ?_;show ∃i',_∧_;exact⟨((k+1),v20),⟨by omega,trivial,R.as (show [(⟨5,1,v20,((bH (L.take k)).length+(En.dP 10 (En.zig x16)).length),((bH (L.take k)).map dY++(En.dP 10 (En.zig x16)).map dY)⟩:Sx.Row)]=[⟨5,1,v20,(bH (L.take (k+1))).length,(bH (L.take (k+1))).map dY⟩] by rw[Xu qX wG]; simp),S.sn⟩,by show _-_<_-_; omega⟩
 refine aod<|jv _ _<|anv fun _ jA=>adr S 2 [] [(2,v)] fun S=>anu<|jA _ _<|anz S results33 ?_;exact⟨_,rfl,by have:=R.own _ aox; rw[aou (by have:=aoi mG; omega)]at this; exact this,S.E⟩
theorem rW{w:World}{p:bT} :
  Calls prog 34 #[.agg p.cells.toArray] w fun e w'=>∃v,e = .returned v∧OwnB w.heap.size w' v (Px.pb p)∧Ext w w':=by
 skip;refine anA func34 ntmps34 fun ac S=>anv fun _ aS=>anw S 1 p.cells fun ac u b2 E3 hb4 S=>adr S 1 [] [(2,.sn)] fun S=>anu<|aS _ _<|anv fun _ bM=>adr S 8 [.mem 0 0,.mem 0 1,.mem 0 2,.mem 0 3] [(4,.u (p.r.toNat:Int)),(6,.u (p.g.toNat:Int)),(8,.u (p.b.toNat:Int)),(10,.u (p.a.toNat:Int))] (fun S=>?_);have R:=aoz S;refine anY S R 11 4 5 1 p.cells fun ac u v6 E7 X8 R S=>adr S 1 [] [(2,v6)] fun S=>anu<|bM _ _<|anz S results34 ?_;exact⟨_,rfl,R.own _ aox,S.E⟩
theorem Xv{w:World}{v f:Value}{a:Option Addr}{c:Nat} :
  Calls prog 78 #[v,.slice a 0 c,f] w fun e w'=>e = .returned v∧Ext w w':=by
 skip;refine anA func78 ntmps78 fun ac S=>anv fun _ aS=>adr S 1 [] [(6,.sn)] fun S=>anu<|aS _ _<|anV fun _ eP=>anv fun _ jv=>adr S 3 [] [(9,.slice a 0 c),(10,.i 0),(11,.i 0)] fun S=>anu<|jv _ _<|an1<|apb 1 ?_;rw[aoj];refine anv fun _ oq=>adr S 1 [] [(12,.z)] fun S=>anu<|oq _ _<|anV fun _ bM=>anM S<|aod<|eP _ _<|anv fun _ iL=>adr S 2 [] [(6,v)] fun S=>anu<|iL _ _<|anz S results78 ?_;exact⟨rfl,S.E⟩
theorem Xw{w:World}{f:Value}{a:Option Addr}{c:Nat} :
  Calls prog 35 #[.slice a 0 c,f] w fun e w'=>∃v,e = .returned v∧OwnB w.heap.size w' v [0]∧Ext w w':=by
 skip;refine anA func35 ntmps35 fun ac S=>anv fun _ aS=>adr S 1 [] [(4,.sn)] fun S=>anu<|aS _ _<|anv fun _ eP=>adr S 3 [] [(7,.int .u64 0)] fun S=>anB S (some 8) (gW 0 _ (by omega)) ?_;rintro e u ⟨v8,rfl,Yz,E3⟩;refine⟨_,rfl,E3,fun ac S=>?_⟩;refine adr S 2 [] [(9,.slice a 0 c),(10,f)] fun S=>anE S 11 (Xv (v:=v8) (f:=f) (a:=a) (c:=c)) fun ac u E4 S=>adr S 1 [] [(4,v8)] fun S=>anu<|eP _ _<|anz S results35 ?_;exact⟨_,rfl,(anL Yz E4),S.E⟩
def scB(s:dF):List UInt8:=[71,83,49]++bH [s.w,s.h]++Px.pb s.bg++[0]
theorem U7{s:dF}:(scB s).length=3+(bH [s.w,s.h]).length+4+1:=by simp[scB,Px.pb]; omega
theorem acH{s:dF}:(scB s).map dY=[.u 71,.u 83,.u 49]++(bH [s.w,s.h]).map dY++(Px.pb s.bg).map dY++[dY 0]:=by
 unfold scB; rw[aoL,aoL,aoL]; rfl
theorem zo{w:World}{s:dF}(h:kW K w s)(hg:gI w)(hns:s.ns=[])(hv:s.key.valid=true) :
  Calls prog 12 #[s.v] w fun e w'=>∃v,e = .returned (.tuple #[v,.i 0])∧OwnB w.heap.size w' v (iF.app (scB s))∧Ext w w':=by
 skip;refine anA func12 ntmps12 fun ac S=>anv fun _ aS=>anw S 1 s.cells fun ac u b2 E3 hb4 S=>adr S 2 [] [(2,.sn),(3,.i 0)] fun S=>anu<|aS _ _<|anV fun _ bM=>anv fun _ iL=>adr S 1 [.mem 0 0] [(5,s.v)] fun S=>anE S 6 (D6 (h.below S.E) (gI.below hg S.E)) fun ac u E7 S=>adr S 1 [] [(7,.bool (!s.key.valid))] fun S=>anu (iL _ _ ?_);refine anx S (fun hc8=>?_) (fun hc8=>?_)
 ·refine anv fun _ ig=>adr S 2 [] [(2,.sn),(3,.i 18)] fun S=>anu<|ig _ _<|an2 ?_;rw[hv]at hc8; simp at hc8
 refine anZ<|bM _ _<|anv (fun _ eX=>?_);have R:=aoz S;refine Sx.lit S 8 9 3 [.u 71,.u 83,.u 49] 49 5 underlying49 underlying5 fun{ac u b13} wu rV S=>adr S 4 [.mem 0 0,.mem 0 1] [(11,.i s.w),(13,.i s.h)] fun S=>anP S 14 2 [.i s.w,.i s.h] fun ac u b14 Ez hb16 S=>anB S (some 15) (iC (L:=[s.w,s.h]) (Sx.iO (f:=fun x:Int => .i x) [s.w,s.h] (S.bx 0) (by simp[maxLen])) (fun x hx=>by simp at hx; rcases hx with rfl | rfl; exact h.1; exact h.2.1) (by simp)) ?_;rintro e u ⟨v15,rfl,YC,wI⟩;refine⟨_,rfl,wI,fun ac S=>?_⟩;have hvl:=fJ [s.w,s.h];have hvn:0<(bH [s.w,s.h]).length:=by unfold bH; rw[apn,an5]; have h1:0<(En.dP 10 (En.zig s.w)).length:=En.xu 9 _; omega
 simp only[aop,aoy]at hvl;obtain⟨R,Y18⟩:=R.aT S (an4 (aoc wu) (an4 (aoG Ez hb16) (aoc wI)));refine Sx.ab3 S R 16 nX ((fK.below rV (Ext.trans' Ez wI))) (jL (YC)) (by omega) (by omega) (by simp[maxLen]<;>omega) (by omega) fun ac u v19 Am X21 R S=>adr S 1 [] [(4,v19)] fun S=>anu<|eX _ _<|anv fun _ jA=>adr S 3 [.mem 1 2] [(17,v19),(19,.agg s.bg.cells.toArray)] fun S=>anB S (some 20) (rW (p:=s.bg)) ?_;rintro e u ⟨v20,rfl,ae9,CJ⟩;refine⟨_,rfl,CJ,fun ac S=>?_⟩;obtain⟨R,Y24⟩:=R.aT S (aoc CJ);refine anW S R 0 21 rfl nX (jL (ae9)) (by show 3+(bH [s.w,s.h]).length+4≤9223372036854775807; omega) (by show(3+(bH [s.w,s.h]).length+4)*1≤140737488355328; omega) fun ac u v25 X26 R S=>adr S 1 [] [(4,v25)] fun S=>anu<|jA _ _<|anv fun _ jX=>adr S 5 [.mem 1 6] [(22,v25),(24,s.s),(26,.func (.func 36) #[.agg #[.z]] #[])] (fun S=>?_);have hs0:s.s = .slice s.nsa 0 s.nsc:=by unfold dF.s; rw[hns]; rfl
 refine anB S (some 27) ((by have hc:=Xw (w:=u) (f := .func (.func 36) #[.agg #[.z]] #[]) (a:=s.nsa) (c:=s.nsc); rw[←hs0]at hc; exact hc)) ?_;rintro e u ⟨v27,rfl,afa,Oc⟩;refine⟨_,rfl,Oc,fun ac S=>?_⟩;obtain⟨R,Y29⟩:=R.aT S (aoc Oc);refine anW S R 0 28 rfl nX (jL (afa)) (by show 3+(bH [s.w,s.h]).length+4+1≤9223372036854775807; omega) (by show(3+(bH [s.w,s.h]).length+4+1)*1≤140737488355328; omega) fun ac u v30 X31 R S=>adr S 1 [] [(4,v30)] fun S=>anu<|jX _ _<|anv fun _ mZ=>adr S 1 [] [(29,v30)] (fun S=>?_);have hout:OwnB w.heap.size u v30 (scB s):=by have:=R.own _ aox; unfold OwnB; rw[U7,acH]; exact this
 have hol:(scB s).length≤1000:=by rw[U7]; omega
 have S0:=S.E.size;refine anB S (some 30) (ug _ (scB s) _ (kQ hout) (by omega)) ?_;rintro e u ⟨v30,rfl,SI,E33⟩;refine⟨_,rfl,E33,fun ac S=>?_⟩;refine adr S 2 [] [(2,v30),(3,.i 0)] fun S=>anu<|mZ _ _<|Sx.Pq S results12 ?_;exact⟨_,rfl,au (SI) S0,S.E⟩
end
section
set_option maxHeartbeats 1600000
set_option maxRecDepth 100000
open Go.RowKit
variable{α:Type}{K:Nat}
theorem afb{l:List UInt8}{p:Nat}(hp:p≤l.length):(En.Dy l (p:Int)).2.1≤l.length:=by
 cases h:En.Dy l (p:Int)with
 | mk k r =>
  obtain⟨x,er⟩:=r;by_cases he:er=0
  ·subst he; obtain⟨c,-,-,h2,-⟩:=Px.ok1 hp h; exact h2
  rw[Px.aaE hp]at h;split at h
  ·simp only[aob]at h; omega
  simp only[aob]at h; show x≤_; omega
def SK(l:List UInt8)(p:Nat)(bad:Bool):Bool:=bad||(En.vat l (p:Int)).2.2 != 0
def riP(l:List UInt8)(p:Nat)(bad:Bool):Nat:=if SK l p bad=true then p else (En.vat l (p:Int)).2.1
def riV(l:List UInt8)(p:Nat)(bad:Bool):Int:=if SK l p bad=true then 0 else (En.vat l (p:Int)).1
theorem afc{l:List UInt8}{p:Nat}:I64 (En.vat l (p:Int)).1:=by
 have:=En.Z7 (n:=(En.Dy l (p:Int)).1) (QD l p);exact this
theorem afd{l:List UInt8}{p nx er:Nat}{x:Int}{bad:Bool}(hu:En.vat l (p:Int)=(x,nx,er))(h:(bad || !decide ((er:Int)=0))=true):SK l p bad=true∧riP l p bad=p∧riV l p bad=0:=by
 have:SK l p bad=true:=by
  unfold SK; rw[hu];cases bad
  ·simp at h ⊢; omega
  rfl
 unfold riP riV; rw[an6 this,an6 this]; exact⟨this,rfl,rfl⟩
theorem ahl{l:List UInt8}{p nx er:Nat}{x:Int}{bad:Bool}(hu:En.vat l (p:Int)=(x,nx,er))(h:(bad || !decide ((er:Int)=0))=false):bad=false∧SK l p bad=false∧riP l p bad=nx∧riV l p bad=x:=by
 have:bad=false∧SK l p bad=false:=by
  unfold SK; rw[hu];cases bad
  ·simp at h ⊢; omega
  simp at h
 unfold riP riV; rw[this.2,hu]; exact⟨this.1,rfl,by simp,by simp⟩
def rcB(l:List UInt8)(p:Nat)(bad:Bool):Bool:=bad||((En.Dy l (p:Int)).2.2 != 0||decide (l.length-(En.Dy l (p:Int)).2.1<(En.Dy l (p:Int)).1))
def rcP(l:List UInt8)(p:Nat)(bad:Bool):Nat:=if rcB l p bad=true then p else (En.Dy l (p:Int)).2.1
def rcV(l:List UInt8)(p:Nat)(bad:Bool):Nat:=if rcB l p bad=true then 0 else (En.Dy l (p:Int)).1
theorem afe{l:List UInt8}{p k nx er:Nat}{bad:Bool}(hu:En.Dy l (p:Int)=(k,nx,er))(h:¬(bad=false∧er=0∧k≤l.length-nx)):rcB l p bad=true∧rcP l p bad=p∧rcV l p bad=0:=by
 have:rcB l p bad=true:=by
  unfold rcB; rw[hu];cases bad
  ·simp at h ⊢; omega
  rfl
 unfold rcP rcV; rw[an6 this,an6 this]; exact⟨this,rfl,rfl⟩
theorem ahm{l:List UInt8}{p k nx er:Nat}{bad:Bool}(hu:En.Dy l (p:Int)=(k,nx,er))(h:bad=false∧er=0∧k≤l.length-nx):rcB l p bad=false∧rcP l p bad=nx∧rcV l p bad=k:=by
 have:rcB l p bad=false:=by
  unfold rcB; rw[hu];obtain⟨rfl,rfl,h⟩:=h;simp; omega
 unfold rcP rcV; rw[this,hu]; exact⟨rfl,by simp,by simp⟩
theorem sS(v u:Value)(l m:List UInt8)(w:World)(hv:bI w v l)(hu:bI w u m) :
  Calls prog 55 #[v,u] w fun e w'=>e = .returned (.bool (l==m))∧w=w':=by
 have s1:=rU (P:=prog) (src:=49) (e:=5) (dst:=9) underlying49 underlying5 underlying9 hv;have s2:=rU (P:=prog) (src:=49) (e:=5) (dst:=9) underlying49 underlying5 underlying9 hu;clear hv hu;go_enter func55,ntmps55
 go_wp2_with fail
 go_ret
 exact⟨rfl,rfl⟩
theorem rO{w0 w:World}{b p cap:Nat}{a:Option Addr}{bad pk:Bool}{l:List UInt8}(hE:Ext w0 w)(hx:Bx w b #[.slice a l.length cap,.i p,.bool bad,.bool pk])(hb:w0.heap.size≤b)(h:mF w0 (.slice a l.length cap) l)(hp:p≤l.length) :
  Calls prog 50 #[.q b 0] w fun e w'=>e = .returned (.i (riV l p bad))∧Ext w0 w'∧Ch b w w'∧Bx w' b #[.slice a l.length cap,.i (riP l p bad:Nat),.bool (SK l p bad),.bool pk]:=by
 skip;refine Sx.zV func50 ntmps50 hE hx hb fun ac S=>anv fun _ aS=>adr S 1 [] [(2,.i 0)] fun S=>anu<|aS _ _<|anV (fun _ eP=>?_);obtain⟨xv,nx,er,hu⟩:∃xv nx er,En.vat l (p:Int)=(xv,nx,er):=⟨_,_,_,rfl⟩;have hwb:I64 xv:=by have:=@afc l p; rw[hu]at this; exact this
 refine anI S 15 [.mem 0 0,.mem 0 1] [(_,_,true,.tuple #[.i xv,.i nx,.i er])] [(3,.i xv),(4,.i nx),(18,.i er)] ⟨fun u hC g=>(by have hc:=QF (.slice a l.length cap) l (p:Int) _ (iT (aV.below h (Ext.trans' S.E hC))); rw[hu]at hc; exact hc),trivial⟩ fun ac u E3 S=>adr S 1 [] [(5,.i er)] fun S=>anu<|eP _ _<|anV fun _ oq=>anv fun _ bM=>adr S 8 [.mem 0 2] [(26,.bool (bad||(((er:Int)) != 0)))] fun S=>anu (bM _ _ ?_);refine anx S (fun hc6=>?_) (fun hc6=>?_)
 ·refine anv fun _ iZ=>adr S 3 [] [(29,.q b 2)] fun S=>anT S 0 (off:=2) (v := .bool true) rfl (fun u C8 S=>?_);have Fs9:=(qx ((Ch.trans (Ch.refl b w) (Ch.jG E3))) C8 (by first | exact .inl rfl | exact .inr (by omega)));refine anu<|iZ _ _<|anv fun _ eX=>adr S 1 [] [(2,.i 0)] fun S=>anu<|eX _ _<|an2 ?_;have hq:(bad || !decide ((er:Int)=0))=true:=by cases bad<;>simp at hc6 ⊢ <;> omega
  obtain⟨q1,q2,q3⟩:=afd hu hq;refine anD S results50 ?_;exact⟨by rw[q3],S.E,Fs9,by rw[q1,q2]; have:=S.bx 0; exact this⟩
 refine anZ<|oq _ _<|anv fun _ cZ=>adr S 4 [] [(31,.i nx),(33,.q b 1)] fun S=>anT S 0 (off:=1) (v := .i nx) rfl (fun u C12 S=>?_);have aap:=(qx ((Ch.trans (Ch.refl b w) (Ch.jG E3))) C12 (by first | exact .inl rfl | exact .inr (by omega)));refine anu<|cZ _ _<|anv fun _ fP=>adr S 2 [] [(2,.i xv)] fun S=>anu<|fP _ _<|an2 ?_;have hq:(bad || !decide ((er:Int)=0))=false:=by cases bad<;>simp at hc6 ⊢ <;> omega
 obtain⟨q0,q1,q2,q3⟩:=ahl hu hq;refine anD S results50 ?_;exact⟨by rw[q3],S.E,aap,by rw[q1,q2]; have:=S.bx 0; rw[q0]at this; exact this⟩
theorem PI{w0 w:World}{b p cap:Nat}{a:Option Addr}{bad pk:Bool}{l:List UInt8}(hE:Ext w0 w)(hx:Bx w b #[.slice a l.length cap,.i p,.bool bad,.bool pk])(hb:w0.heap.size≤b)(h:mF w0 (.slice a l.length cap) l)(hp:p≤l.length) :
  Calls prog 53 #[.q b 0] w fun e w'=>e = .returned (.i (rcV l p bad:Nat))∧Ext w0 w'∧Ch b w w'∧Bx w' b #[.slice a l.length cap,.i (rcP l p bad:Nat),.bool (rcB l p bad),.bool pk]:=by
 have hml:l.length≤9223372036854775807:=h.len;refine Sx.zV func53 ntmps53 hE hx hb fun ac S=>anv fun _ aS=>adr S 1 [] [(2,.i 0)] fun S=>anu<|aS _ _<|anV (fun _ eP=>?_);obtain⟨kk,nx,er,hu⟩:∃kk nx er,En.Dy l (p:Int)=(kk,nx,er):=⟨_,_,_,rfl⟩;have hnx:nx≤l.length:=by have:=@afb l p hp; rw[hu]at this; exact this
 have hkb:kk<18446744073709551616:=by have:=QD l (p:Int); rw[hu]at this; exact this
 refine anI S 15 [.mem 0 0,.mem 0 1] [(_,_,true,.tuple #[.int .u64 (kk:Int),.i nx,.i er])] [(3,.int .u64 (kk:Int)),(4,.i nx),(18,.i er)] ⟨fun u hC g=>(by have hc:=Dz (.slice a l.length cap) l (p:Int) _ (iT (aV.below h (Ext.trans' S.E hC))); rw[hu]at hc; exact hc),trivial⟩ fun ac u E3 S=>adr S 1 [] [(5,.i er)] fun S=>anu<|eP _ _<|anV fun _ oq=>anv fun _ bM=>adr S 20 [.mem 0 2,.mem 0 0,.re 35 (.i (IntKind.i64.wrap ((l.length:Int)-(nx:Int)))) (.i (l.length-nx:Nat)),.re 36 (.int .u64 (IntKind.u64.wrap ((l.length-nx:Nat):Int))) (.int .u64 ((l.length-nx:Nat):Int))] [(38,.bool ((bad||(((er:Int)) != 0))||(decide (((l.length-nx:Nat):Int)<(kk:Int)))))] (hk:=⟨(Sx.zY (by omega) (by omega)),(wrap_u64 (by omega)),trivial⟩) fun S=>anu (bM _ _ ?_);refine anx S (fun hc6=>?_) (fun hc6=>?_)
 ·refine anv fun _ iZ=>adr S 3 [] [(41,.q b 2)] fun S=>anT S 0 (off:=2) (v := .bool true) rfl (fun u C8 S=>?_);have Fs9:=(qx ((Ch.trans (Ch.refl b w) (Ch.jG E3))) C8 (by first | exact .inl rfl | exact .inr (by omega)));refine anu<|iZ _ _<|anv fun _ eX=>adr S 1 [] [(2,.i 0)] fun S=>anu<|eX _ _<|an2 ?_;have hq:¬(bad=false∧er=0∧kk≤l.length-nx):=by rintro⟨h1,h2,h3⟩; rw[h1]at hc6; simp at hc6<;>omega
  obtain⟨q1,q2,q3⟩:=afe hu hq;refine anD S results53 ?_;exact⟨by rw[q3]<;>rfl,S.E,Fs9,by rw[q1,q2]; have:=S.bx 0; exact this⟩
 refine anZ<|oq _ _<|anv (fun _ cZ=>?_);have hq:bad=false∧er=0∧kk≤l.length-nx:=by cases bad<;>simp at hc6 ⊢ <;> omega
 refine adr S 4 [] [(43,.i nx),(45,.q b 1)] fun S=>anT S 0 (off:=1) (v := .i nx) rfl (fun u C12 S=>?_);have aap:=(qx ((Ch.trans (Ch.refl b w) (Ch.jG E3))) C12 (by first | exact .inl rfl | exact .inr (by omega)));refine anu<|cZ _ _<|anv fun _ fP=>adr S 3 [.re 47 (.i (IntKind.i64.wrap (kk:Int))) (.i kk)] [(2,.i kk)] (hk:=⟨(Sx.zY rfl (by omega)),trivial⟩) fun S=>anu<|fP _ _<|an2 ?_;obtain⟨q1,q2,q3⟩:=ahm hu hq;refine anD S results53 ?_;exact⟨by rw[q3]<;>rfl,S.E,aap,by rw[q1,q2]; have:=S.bx 0; rw[hq.1]at this; exact this⟩
theorem PK{w:World}{r f:Value} :
  Calls prog 52 #[r,.i 0,f] w fun e w'=>e = .returned (.sn)∧Ext w w':=by
 skip;refine anA func52 ntmps52 fun ac S=>anv fun _ aS=>adr S 1 [] [(6,.sn)] fun S=>anu<|aS _ _<|anv fun _ eP=>adr S 1 [] [(7,.sn)] fun S=>anu<|eP _ _<|anV fun _ jv=>anv fun _ oq=>adr S 2 [] [(8,.i 0),(9,.i 0)] fun S=>anu<|oq _ _<|an1<|apb 1 ?_;rw[aoj];refine anv fun _ bM=>adr S 1 [] [(10,.z)] fun S=>anu<|bM _ _<|anV fun _ iL=>anM S<|aod<|jv _ _<|anv fun _ iZ=>adr S 2 [] [(6,.sn)] fun S=>anu<|iZ _ _<|anz S results52 ?_;exact⟨rfl,S.E⟩
theorem IV{w:World}{v v':Value}{l m:List UInt8}(h:mF w v l)(h':mF w v' m) :
  Calls prog 102 #[v,v'] w fun e w'=>e = .returned (.bool (decide (m.length≤l.length)&&(l.take m.length==m)))∧Ext w w':=by
 obtain⟨a,cap,rfl⟩:=h.shape;obtain⟨d,cap',rfl⟩:=h'.shape;refine anA func102 ntmps102 fun ac S=>anv fun _ aS=>adr S 1 [] [(4,.z)] fun S=>anu<|aS _ _<|anv (fun _ eP=>?_);by_cases hq:m.length≤l.length
 ·have hcap:=Sx.BA h;refine adr S 11 [.re 9 (.bool ((m.length:Int)≤(l.length:Int))) (.bool true),.slc 0 m.length cap cap] [(10,.bool true),(14,.slice (Sx.UZ a 0 cap 1) m.length cap),(15,.slice d m.length cap')] (hk:=⟨(an9 Value.bool (aoX (by omega))),(by omega),trivial⟩) fun S=>Sx.zX S (some 16) (anO (sS _ _ (l.take m.length) m _ (iT (aV.below (Sx.GX h (l:=0) (h':=m.length) (m:=cap) (by omega) hq (by omega) (by omega)) S.E)) (iT (aV.below h' S.E)))) ?_;rintro e u ⟨rfl,E3⟩;refine⟨_,rfl,E3,fun ac S=>?_⟩;refine adr S 2 [] [(4,.bool (l.take m.length==m))] fun S=>anu<|eP _ _<|anz S results102 ?_;exact⟨an9 (fun b=>Ending.returned (Value.bool b)) (by rw[aoX hq,apz]),S.E⟩
 refine adr S 14 [.re 9 (.bool ((m.length:Int)≤(l.length:Int))) (.z),.dead 11 (.z),.dead 12 (.z),.dead 13 (.z),.dead 14 (.z),.dead 15 (.z),.dead 16 (.z)] [(4,.z)] (hk:=⟨(an9 Value.bool (apa (by omega))),trivial⟩) fun S=>anu<|eP _ _<|anz S results102 ?_;exact⟨an9 (fun b=>Ending.returned (Value.bool b)) (by rw[apa hq,apN]),S.E⟩
end
section
open Go.RowKit
variable{α:Type}{K:Nat}
theorem G7{f:α→Value}{w:World}{v:Value}{l:List α}(h:dS f w v l):aV 1 (fun x=>[f x]) w v l:=by
 obtain⟨a,cap,rfl,hm,hh⟩:=h;refine⟨a,cap,rfl,hm,hh.imp id ?_⟩;rintro⟨b,o,rfl,hb,hl,hc⟩;refine⟨b,o,rfl,hb,hl,fun i hi j hj=>?_⟩;obtain rfl:j=0:=by omega
 rw[show o+i*1+0=o+i by omega,hc i hi]; rfl
theorem acI(m:List UInt8):(iF.app m).length=m.length+4:=by simp[iF.app,iF.le4]
theorem SL{w:World}{v:Value}{m:List UInt8}(h:mF w v (iF.app m))(hm:m.length≤100000000) :
  Calls prog 101 #[v] w fun e w'=>∃v',e = .returned (.tuple #[v',.i 0])∧mF w' v' m∧Ext w w':=by
 refine(PG v (iF.app m) m.length w (iT h) (acI m) hm).mono ?_;rintro e w' ⟨v',k,rfl,hE,h1,-⟩;have ht:(iF.app m).take m.length=m:=by unfold iF.app; rw[List.take_left]
 obtain⟨rfl,hb⟩:=h1 (by rw[ht]; unfold iF.app; rw[List.drop_left]);rw[ht]at hb;exact⟨v',rfl,G7 hb,hE⟩
set_option maxRecDepth 100000 in
set_option maxHeartbeats 1600000 in
theorem G8{w:World}{v:Value}{m:List UInt8}{c0 c1' c2:UInt8}(h:mF w v (iF.app m))(hm:m.length≤1000000)(hp:m.take 3=[c0,c1',c2]) :
  Calls prog 49 #[v,.string ⟨#[c0,c1',c2]⟩] w fun e w'=>∃b a1 c1 wm,e = .returned (.tuple #[.q b 0,.i 0])∧Ext w wm∧mF wm (.slice a1 m.length c1) m∧wm.heap.size≤b∧Ext wm w'∧Bx w' b #[.slice a1 m.length c1,.i (3:Nat),.z,.z]:=by
 replace hm:m.length≤100000000:=by omega
 obtain⟨a,cap,rfl⟩:=h.shape;refine anA func49 ntmps49 fun ac S=>anv fun _ aS=>adr S 2 [] [(4,(.pointer none)),(5,.i 0)] fun S=>anu<|aS _ _<|anv fun _ eP=>adr S 1 [] [(9,.slice a ((iF.app m).length) cap)] fun S=>anB S (some 10) (SL h hm) ?_;rintro e u ⟨v1,rfl,hv1,E3⟩;obtain⟨a1,c1,rfl⟩:=hv1.shape;refine⟨_,rfl,E3,fun ac S=>?_⟩;obtain⟨wm,hwm⟩:∃x,x=u:=⟨_,rfl⟩;have hbm:mF wm (.slice a1 m.length c1) m:=hwm▸hv1;have ajV:Ext w wm:=hwm▸S.E;have hEm:Ext wm u:=hwm▸Ext.rfl';clear hwm;refine adr S 5 [] [(6,.slice a1 m.length c1),(7,.i 0)] fun S=>anu<|eP _ _<|anV fun _ oq=>anv fun _ bM=>adr S 2 [] [(14,.z)] fun S=>anu<|bM _ _<|anM S<|anZ<|oq _ _<|anV fun _ iL=>anv fun _ iZ=>adr S 2 [] [(16,.slice a1 m.length c1),(17,.string ⟨#[c0,c1',c2]⟩)] fun S=>Sx.bytesOf S 18 [c0,c1',c2] underlying9 underlying49 underlying5 (by simp[maxLen]) fun{ac u b10 c11} E8 hr9 S=>anE S 19 ((by have hc:=IV (w:=u) (aV.below hbm ((Ext.trans' hEm E8))) ((G7 hr9)); rw[show(decide ([c0,c1',c2].length≤m.length)&&(m.take [c0,c1',c2].length==[c0,c1',c2]))=true by(have e:m.take 3=[c0,c1',c2]:=hp; have e2:=an9 List.length e; simp at e2; simp[e]; omega)]at hc; exact hc)) fun ac u wE S=>adr S 1 [] [(20,.z)] fun S=>anu<|iZ _ _<|anM S<|anZ<|iL _ _<|anv (fun _ iH=>?_);have hws:=(((Ext.trans' hEm (Ext.trans' E8 wE)))).size;refine adr S 4 [] [(24,.agg #[.slice a1 m.length c1,.i 3,.z,.z])] fun S=>anw S 25 [.slice a1 m.length c1,.i 3,.z,.z] fun ac u b14 Ez hb16 S=>adr S 2 [] [(4,.q b14 0),(5,.i 0)] fun S=>anu<|iH _ _<|Sx.Pq S results49 ?_;exact⟨_,_,_,wm,rfl,ajV,hbm,by have:=hb16; omega,((Ext.trans' hEm (Ext.trans' E8 (Ext.trans' wE Ez)))),S.bx 0⟩
end
section
open Go.RowKit
variable{α:Type}{K:Nat}
def s0:dF:=⟨4,4,⟨255,255,255,255⟩,none,0,[]⟩
def m0:List UInt8:=[71,83,49,8,8,255,255,255,255,0]
theorem U8(w:World):kW 20 w s0:=⟨show I64 4 by decide,show I64 4 by decide,jD _ _ _,fun n hn=>by cases hn⟩
theorem PL:s0.key.valid=true:=by decide +kernel
theorem PN:scB s0=m0:=by decide +kernel
theorem Ls:riV m0 3 false=4∧riP m0 3 false=4∧SK m0 3 false=false:=by decide +kernel
theorem Lu:riV m0 4 false=4∧riP m0 4 false=5∧SK m0 4 false=false:=by decide +kernel
theorem SN:tkL m0 5 false 4=[255,255,255,255]∧tkP m0 5 false 4=9∧Xm m0 5 false 4=false:=by decide +kernel
theorem G9:rcV m0 9 false=0∧rcP m0 9 false=10∧rcB m0 9 false=false:=by decide +kernel
theorem aff{q:bT}{a b c d:UInt8}(h:Px.pb q=[a,b,c,d]):q=⟨a,b,c,d⟩:=by
 obtain⟨r,g,b',a'⟩:=q;simp only[Px.pb,aoM,and_true]at h;obtain⟨rfl,rfl,rfl,rfl⟩:=h; rfl
set_option maxRecDepth 100000 in
set_option maxHeartbeats 1600000 in
theorem IW{w:World}{v:Value}(hg:gI w)(h:mF w v (iF.app m0)) :
  Calls prog 18 #[v] w fun e w'=>e = .returned (.tuple #[s0.v,.i 0])∧Ext w w':=by
 obtain⟨a,cap,rfl⟩:=h.shape;refine anA func18 ntmps18 fun ac S=>anv fun _ aS=>anw S 2 [.i 0,.i 0,.u 0,.u 0,.u 0,.u 0,.sn] fun ac u b2 E3 hb4 S=>adr S 1 [] [(3,.i 0)] fun S=>anu<|aS _ _<|anv fun _ bM=>adr S 1 [] [(9,.slice a ((iF.app m0).length) cap)] (fun S=>?_);have hz0:=(S.bx 0).1;have hu0:=S.E.size;have hEq:=S.E;refine anB S (some 10) (G8 (aV.below h S.E) (by decide) (by rfl)) ?_;rintro e u ⟨rb,a1,c1,wm,rfl,hE0,hbm,hws,hE1,hXr⟩;refine⟨_,rfl,Ext.trans' hE0 hE1,fun ac S=>?_⟩;have hs0:=hE0.size;have hEw:Ext w wm:=Ext.trans' hEq hE0;have E6:=Ext.trans' hE0 hE1;have S:=S.adopt (A:=[.slice a1 m0.length c1,.i (3:Nat),.z,.z]) hXr (by omega) (fun p hp=>by rcases aon.1 hp with rfl | hp; (intro e; simp only at e; omega); cases hp) (fun m hm=>by cases hm);refine adr S 5 [] [(4,.q rb 0),(5,.i 0)] fun S=>anu<|bM _ _<|anV fun _ iZ=>anv fun _ eu=>adr S 2 [] [(14,.z)] fun S=>anu<|eu _ _<|anM S<|anZ<|iZ _ _<|anv fun _ ig=>adr S 1 [] [(17,.q rb 0)] (fun S=>?_);have EG:=hE1;refine Sx.qR S 0 [.slice a1 m0.length c1,.i (4:Nat),.z,.z] (some 18) rfl (by have hc:=rO (l:=m0) (p:=3) EG (S.bx 0) hws hbm (by decide); rw[Ls.2.1,Ls.2.2]at hc; exact hc) ?_;rintro e u ⟨rfl,Xx,afg,afh⟩;refine⟨_,rfl,Ext.trans' hEw Xx,afg,afh,fun ac S=>?_⟩;have QN:=Xx;have ajW:=Xx.size;rw[Ls.1]at S;refine adr S 1 [] [(19,.agg #[.i 4,.i 0,.u 0,.u 0,.u 0,.u 0,.sn])] fun S=>anw S 6 [.i 0,.i 0,.u 0,.u 0,.u 0,.u 0,.sn] fun ac u b12 Dv aeB S=>anC S 0 (off:=0) (cs:=[.i 4,.i 0,.u 0,.u 0,.u 0,.u 0,.sn]) rfl (fun u C15 S=>?_);have Oo:=anF Dv C15 (by omega);refine anu<|ig _ _<|anv fun _ gV=>adr S 1 [] [(20,.q rb 0)] (fun S=>?_);have EG:=((Ext.trans' QN Oo));refine Sx.qR S 1 [.slice a1 m0.length c1,.i (5:Nat),.z,.z] (some 21) rfl (by have hc:=rO (l:=m0) (p:=4) EG (S.bx 1) hws hbm (by decide); rw[Lu.2.1,Lu.2.2]at hc; exact hc) ?_;rintro e u ⟨rfl,SQ,acJ,afi⟩;refine⟨_,rfl,Ext.trans' hEw SQ,acJ,afi,fun ac S=>?_⟩;have Eh:=SQ;have ajX:=SQ.size;rw[Lu.1]at S;refine adr S 1 [] [(22,.q b12 1)] fun S=>anT S 0 (off:=1) (v := .i 4) rfl (fun u JZ S=>?_);have Ro:=(anF Eh JZ (by omega));refine anu<|gV _ _<|anv fun _ jA=>adr S 1 [] [(23,.q rb 0)] (fun S=>?_);have EG:=Ro;refine Sx.qR S 1 [.slice a1 m0.length c1,.i (9:Nat),.z,.z] (some 24) rfl (by have hc:=Py (l:=m0) (p:=5) EG (S.bx 1) hws hbm (by decide); rw[SN.2.1,SN.2.2]at hc; exact hc) ?_;rintro e u ⟨q,rfl,hq,afj,ajY,ajZ⟩;obtain rfl:=aff (hq.trans SN.1);refine⟨_,rfl,Ext.trans' hEw afj,ajY,ajZ,fun ac S=>?_⟩;have aj0:=afj;have anc:=afj.size;refine adr S 1 [] [(25,.q b12 2)] fun S=>anC S 0 (off:=2) (cs:=[.u 255,.u 255,.u 255,.u 255]) rfl (fun u X6 S=>?_);have AZ:=(anF aj0 X6 (by omega));refine anu<|jA _ _<|anv fun _ jX=>adr S 2 [] [(26,.q rb 0),(27,.q rb 0)] (fun S=>?_);have EG:=AZ;refine Sx.qR S 1 [.slice a1 m0.length c1,.i (10:Nat),.z,.z] (some 28) rfl (by have hc:=PI (l:=m0) (p:=9) EG (S.bx 1) hws hbm (by decide); rw[G9.2.1,G9.2.2]at hc; exact hc) ?_;rintro e u ⟨rfl,SS,acK,afk⟩;refine⟨_,rfl,Ext.trans' hEw SS,acK,afk,fun ac S=>?_⟩;have ZA:=SS;have aj1:=SS.size;rw[G9.1]at S;refine adr S 2 [] [(30,.func (.func 54) #[.q rb 0] #[])] fun S=>anE S 31 (PK (r := .q rb 0) (f := .func (.func 54) #[.q rb 0] #[])) fun ac u E30 S=>adr S 1 [] [(32,.q b12 6)] fun S=>anT S 0 (off:=6) (v := .sn) rfl (fun u C31 S=>?_);have Oj:=(anF ((Ext.trans' ZA E30)) C31 (by omega));refine anu<|jX _ _<|anv fun _ jO=>adr S 1 [.mem 0 0] [(34,.agg #[.i 4,.i 4,.u 255,.u 255,.u 255,.u 255,.sn])] fun S=>anB S (some 35) (zo (K:=20) (U8 _) (gI.below hg S.E) rfl PL) ?_;rintro e u ⟨v35,rfl,YE,MV⟩;refine⟨_,rfl,MV,fun ac S=>?_⟩;refine adr S 5 [] [(5,.i 0),(7,v35)] fun S=>anu<|jO _ _<|anV fun _ nZ=>anv fun _ nD=>adr S 11 [.mem 1 2] [(46,.z),(47,v35),(48,.slice a ((iF.app m0).length) cap)] fun S=>Sx.zX S (some 49) ((by have hc:=anO (sS _ _ (iF.app (scB s0)) (iF.app m0) u (kQ (YE)) (iT (aV.below h S.E))); rw[PN,show(iF.app m0==iF.app m0)=true from by simp]at hc; exact hc)) ?_;rintro e u ⟨rfl,FW⟩;refine⟨_,rfl,FW,fun ac S=>?_⟩;refine adr S 2 [] [(51,.z)] fun S=>anu<|nD _ _<|anM S<|anZ<|nZ _ _<|anv fun _ l7=>adr S 1 [.mem 0 0] [(53,.agg #[.i 4,.i 4,.u 255,.u 255,.u 255,.u 255,.sn])] fun S=>anC S 2 (off:=0) (cs:=[.i 4,.i 4,.u 255,.u 255,.u 255,.u 255,.sn]) rfl fun u C39 S=>adr S 1 [] [(3,.i 0)] fun S=>anu<|l7 _ _<|an2 ?_;refine Sx.adL S 2 results18 rfl (v:=s0.v) (u := .i 0) ⟨rfl,S.E⟩
end
end Go.Proofs.YtapmgonflgahbaaGreatDoor
