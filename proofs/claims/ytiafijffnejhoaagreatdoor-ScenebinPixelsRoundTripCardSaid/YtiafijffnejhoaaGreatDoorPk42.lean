/- Encoding: ints, colors, scenes without nodes. Reading: int, count, open. -/
import Derived.Test.YtiafijffnejhoaaGreatDoorPixY
import Derived.Test.YtiafijffnejhoaaGreatDoorPk40
import Derived.Test.YtiafijffnejhoaaGreatDoorCk
set_option linter.unusedVariables false
namespace Go.Proofs.YtiafijffnejhoaaGreatDoor
section
set_option maxHeartbeats 1600000
set_option maxRecDepth 100000
open Go.RowKit
variable{α:Type}{K:Nat}
def lS(L:List Int):List UInt8:=L.flatMap fun x=>En.dF 10 (En.zig x)
theorem Qb{L:List Int}{k:Nat}{x:Int}(hk:k<L.length)(hx:L[k]=x):lS (L.take (k+1))=lS (L.take k)++En.dF 10 (En.zig x):=by
 unfold lS;rw[ahM hk,hx,List.flatMap_append]; simp
theorem IC(L:List Int):(lS L).length≤10*L.length:=by
 induction L with
 | nil=>simp[lS]
 | cons x L ih=>unfold lS at *; rw[aju,ahP,ahL]; have:=En.sF 10 (En.zig x); omega
abbrev aaU (w:World)(v:Value)(L:List Int):Prop:=aK 1 (fun x:Int=>[.i x]) w v L
theorem IE{w:World}{v:Value}{L:List Int}(h:aaU w v L)(hb:∀x∈L,I64 x)(hn:L.length≤1000000) :
  Calls Tryz.prog 31 #[v] w fun e w'=>∃v',e = .returned v'∧OwnB w.heap.size w' v' (lS L)∧Ext w w':=by
 obtain⟨a,cap,rfl⟩:=h.shape;have hmax:L.length≤9223372036854775807:=h.len;refine agX Tryz.func31 Tryz.ntmps31 fun ac S=>agS fun _ aX=>adr S 1 [] [(2,.slice none 0 0)] fun S=>agR<|aX _ _<|agS fun _ fH=>adr S 1 [] [(3,.slice none 0 0)] fun S=>agR<|fH _ _<|ag9 fun _ jK=>agS (fun _ uQ=>?_);have R:=aiI S;have R:=H8 R;refine adr S 3 [] [(6,.slice a L.length cap),(7,.i L.length),(8,.i 0)] fun S=>agR<|uQ _ _<|ahc ?_;refine ahJ (ι:=Nat×Value) (fun p a' w'=>p.1≤L.length∧(True)∧Sx.Rw w w' [] [⟨5,1,p.2,(lS (L.take p.1)).length,(lS (L.take p.1)).map fO⟩]∧Sx.St w a' w' 18 [(0,.slice a L.length cap),(2,.slice none 0 0),(3,p.2),(6,.slice a L.length cap),(7,.i L.length),(8,.i p.1)] [] []) (fun p=>L.length-p.1) (0,(.slice none 0 0)) ⟨ahk _,trivial,R,S.sn⟩ ?_;rintro⟨k,v⟩ ac u hI;try dsimp only at hI
 obtain⟨hk,hR,R,S⟩:=hI;refine agS fun _ dM=>adr S 1 [] [(9,.bool ((k:Int)<(L.length:Int)))] fun S=>agR<|dM _ _<|ag9 (fun _ iI=>?_);refine agU S (fun zX=>?_) (fun zX=>?_)
 ·refine aha<|iI _ _<|ag9 fun _ dU=>ahc<|agS (fun _ iP=>?_);have pG:k<L.length:=by have:=aho zX; omega
  obtain⟨b10,o11,rfl,x16,uZ,JL,EH⟩:=ahx h (fun _=>rfl) (k) pG;have S:=S.view0 JL EH;refine adr S 3 [.idx k L.length,.mem 0 0] [(5,.i x16)] (hk:=⟨pG,trivial⟩) fun S=>agR<|iP _ _<|ahi<|adr S 2 [] [(12,v),(13,.i x16)] fun S=>agZ S (some 14) (CB x16 _ (hb x16 (by rw[←uZ]; exact ah3 _)).1 (hb x16 (by rw[←uZ]; exact ah3 _)).2) ?_;rintro e u ⟨v14,rfl,aft,Dq⟩;refine⟨_,rfl,Dq,fun ac S=>?_⟩;have hvl:=IC (L.take k);rw[aiS]at hvl;have hu9:(En.dF 10 (En.zig x16)).length≤10:=En.sF 10 _;obtain⟨R,Y19⟩:=R.dQ S (ahQ Dq);refine Sx.app S R 0 15 rfl uj (Kw (aft)) (by show(lS (L.take k)).length+(En.dF 10 (En.zig x16)).length≤9223372036854775807; omega) (by show((lS (L.take k)).length+(En.dF 10 (En.zig x16)).length)*1≤140737488355328; omega) fun ac u v20 X21 R S=>adr S 1 [] [(3,v20)] fun S=>agR<|dU _ _<|ahi<|adr S 2 [.re 16 (.i (IntKind.i64.wrap ((k:Int)+1))) (.i (k+1:Nat))] [(8,.i (k+1:Nat))] (hk:=⟨ag7 (by omega),trivial⟩) fun S=>agR ?_;show ∃i',_∧_;exact⟨((k+1),v20),⟨by omega,trivial,R.as (show [(⟨5,1,v20,((lS (L.take k)).length+(En.dF 10 (En.zig x16)).length),((lS (L.take k)).map fO++(En.dF 10 (En.zig x16)).map fO)⟩:Sx.Row)]=[⟨5,1,v20,(lS (L.take (k+1))).length,(lS (L.take (k+1))).map fO⟩] by rw[Qb pG uZ]; simp),S.sn⟩,by show _-_<_-_; omega⟩
 refine ahn<|jK _ _<|agS fun _ nX=>adr S 2 [] [(2,v)] fun S=>agR<|nX _ _<|agV S Tryz.results31 ?_;exact⟨_,rfl,by have:=R.own _ ahZ; rw[ahV (by have:=aht zX; omega)]at this; exact this,S.E⟩
theorem KT{w:World}{p:aO} :
  Calls Tryz.prog 32 #[.agg p.cells.toArray] w fun e w'=>∃v,e = .returned v∧OwnB w.heap.size w' v (Px.pb p)∧Ext w w':=by
 skip;refine agX Tryz.func32 Tryz.ntmps32 fun ac S=>agS fun _ aX=>agT S 1 p.cells fun ac u b2 E3 hb4 S=>adr S 1 [] [(2,.slice none 0 0)] fun S=>agR<|aX _ _<|agS fun _ dM=>adr S 8 [.mem 0 0,.mem 0 1,.mem 0 2,.mem 0 3] [(4,.int .u8 (p.r.toNat:Int)),(6,.int .u8 (p.g.toNat:Int)),(8,.int .u8 (p.b.toNat:Int)),(10,.int .u8 (p.a.toNat:Int))] (fun S=>?_);have R:=aiI S;refine Sx.newRow S R 11 4 5 1 p.cells fun ac u v6 E7 X8 R S=>adr S 1 [] [(2,v6)] fun S=>agR<|dM _ _<|agV S Tryz.results32 ?_;exact⟨_,rfl,R.own _ ahZ,S.E⟩
theorem Qc{w:World}{v f:Value}{a:Option Addr}{c:Nat} :
  Calls Tryz.prog 56 #[v,.slice a 0 c,f] w fun e w'=>e = .returned v∧Ext w w':=by
 skip;refine agX Tryz.func56 Tryz.ntmps56 fun ac S=>agS fun _ aX=>adr S 1 [] [(6,.slice none 0 0)] fun S=>agR<|aX _ _<|ag9 fun _ fH=>agS fun _ jK=>adr S 3 [] [(9,.slice a 0 c),(10,.i 0),(11,.i 0)] fun S=>agR<|jK _ _<|ahc<|aiq 1 ?_;rw[ahr];refine agS fun _ uQ=>adr S 1 [] [(12,.bool false)] fun S=>agR<|uQ _ _<|ag9 fun _ dM=>ag5 S<|ahn<|fH _ _<|agS fun _ iI=>adr S 2 [] [(6,v)] fun S=>agR<|iI _ _<|agV S Tryz.results56 ?_;exact⟨rfl,S.E⟩
theorem Qd{w:World}{f:Value}{a:Option Addr}{c:Nat} :
  Calls Tryz.prog 33 #[.slice a 0 c,f] w fun e w'=>∃v,e = .returned v∧OwnB w.heap.size w' v [0]∧Ext w w':=by
 skip;refine agX Tryz.func33 Tryz.ntmps33 fun ac S=>agS fun _ aX=>adr S 1 [] [(4,.slice none 0 0)] fun S=>agR<|aX _ _<|agS fun _ fH=>adr S 3 [] [(7,.int .u64 0)] fun S=>agZ S (some 8) (ni 0 _ (by omega)) ?_;rintro e u ⟨v8,rfl,ho8,E3⟩;refine⟨_,rfl,E3,fun ac S=>?_⟩;refine adr S 2 [] [(9,.slice a 0 c),(10,f)] fun S=>ag0 S 11 (Qc (v:=v8) (f:=f) (a:=a) (c:=c)) fun ac u E4 S=>adr S 1 [] [(4,v8)] fun S=>agR<|fH _ _<|agV S Tryz.results33 ?_;exact⟨_,rfl,(Sx.eY ho8 E4),S.E⟩
def VJ(s:dH):List UInt8:=[71,83,49]++lS [s.w,s.h]++Px.pb s.bg++[0]
theorem NK{s:dH}:(VJ s).length=3+(lS [s.w,s.h]).length+4+1:=by simp[VJ,Px.pb]; omega
theorem XC{s:dH}:(VJ s).map fO=[.int .u8 71,.int .u8 83,.int .u8 49]++(lS [s.w,s.h]).map fO++(Px.pb s.bg).map fO++[fO 0]:=by
 unfold VJ; rw[ahT,ahT,ahT]; rfl
theorem uI{w:World}{s:dH}(h:mg K w s)(hg:dV w)(hns:s.ns=[])(hv:s.key.valid=true) :
  Calls Tryz.prog 13 #[s.v] w fun e w'=>∃v,e = .returned (.tuple #[v,.i 0])∧OwnB w.heap.size w' v (eP.app (VJ s))∧Ext w w':=by
 skip;refine agX Tryz.func13 Tryz.ntmps13 fun ac S=>agS fun _ aX=>agT S 1 s.cells fun ac u b2 E3 hb4 S=>adr S 2 [] [(2,.slice none 0 0),(3,.i 0)] fun S=>agR<|aX _ _<|ag9 fun _ dM=>agS fun _ iI=>adr S 1 [.mem 0 0] [(5,s.v)] fun S=>ag0 S 6 (Iy (h.below S.E) (dV.below hg S.E)) fun ac u E7 S=>adr S 1 [] [(7,.bool (!s.key.valid))] fun S=>agR (iI _ _ ?_);refine agU S (fun hc8=>?_) (fun hc8=>?_)
 ·refine agS fun _ iP=>adr S 2 [] [(2,.slice none 0 0),(3,.i 18)] fun S=>agR<|iP _ _<|ahj ?_;rw[hv]at hc8; simp at hc8
 refine aha<|dM _ _<|agS (fun _ gI=>?_);have R:=aiI S;refine Sx.lit S 8 9 3 [.int .u8 71,.int .u8 83,.int .u8 49] 23 5 Tryz.underlying23 Tryz.underlying5 fun{ac u b13} Ef Z7 S=>adr S 4 [.mem 0 0,.mem 0 1] [(11,.i s.w),(13,.i s.h)] fun S=>Sx.news S 14 2 [.i s.w,.i s.h] fun ac u b14 CO hb16 S=>agZ S (some 15) (IE (L:=[s.w,s.h]) (Sx.oI (f:=fun x:Int => .i x) [s.w,s.h] (S.bx 0) (by simp[maxLen])) (fun x hx=>by simp at hx; rcases hx with rfl | rfl; exact h.1; exact h.2.1) (by simp)) ?_;rintro e u ⟨v15,rfl,aaV,yI⟩;refine⟨_,rfl,yI,fun ac S=>?_⟩;have hvl:=IC [s.w,s.h];have hvn:0<(lS [s.w,s.h]).length:=by unfold lS; rw[aju,ahP]; have h1:0<(En.dF 10 (En.zig s.w)).length:=En.Ub 9 _; omega
 simp only[ahL,List.length_nil]at hvl;obtain⟨R,Y18⟩:=R.dQ S (ah9 (ahQ Ef) (ah9 (aiz CO hb16) (ahQ yI)));refine Sx.acy S R 16 uj ((eX.below Z7 (Ext.trans' CO yI))) (Kw (aaV)) (by omega) (by omega) (by simp[maxLen]<;>omega) (by omega) fun ac u v19 D6 X21 R S=>adr S 1 [] [(4,v19)] fun S=>agR<|gI _ _<|agS fun _ nX=>adr S 3 [.mem 1 2] [(17,v19),(19,.agg s.bg.cells.toArray)] fun S=>agZ S (some 20) (KT (p:=s.bg)) ?_;rintro e u ⟨v20,rfl,afu,LK⟩;refine⟨_,rfl,LK,fun ac S=>?_⟩;obtain⟨R,Y24⟩:=R.dQ S (ahQ LK);refine Sx.app S R 0 21 rfl uj (Kw (afu)) (by show 3+(lS [s.w,s.h]).length+4≤9223372036854775807; omega) (by show(3+(lS [s.w,s.h]).length+4)*1≤140737488355328; omega) fun ac u v25 X26 R S=>adr S 1 [] [(4,v25)] fun S=>agR<|nX _ _<|agS fun _ qg=>adr S 5 [.mem 1 6] [(22,v25),(24,s.s),(26,.func (.func 34) #[.agg #[.bool false]] #[])] (fun S=>?_);have hs0:s.s = .slice s.nsa 0 s.nsc:=by unfold dH.s; rw[hns]; rfl
 refine agZ S (some 27) ((by have hc:=Qd (w:=u) (f := .func (.func 34) #[.agg #[.bool false]] #[]) (a:=s.nsa) (c:=s.nsc); rw[←hs0]at hc; exact hc)) ?_;rintro e u ⟨v27,rfl,afv,Wn⟩;refine⟨_,rfl,Wn,fun ac S=>?_⟩;obtain⟨R,Y29⟩:=R.dQ S (ahQ Wn);refine Sx.app S R 0 28 rfl uj (Kw (afv)) (by show 3+(lS [s.w,s.h]).length+4+1≤9223372036854775807; omega) (by show(3+(lS [s.w,s.h]).length+4+1)*1≤140737488355328; omega) fun ac u v30 X31 R S=>adr S 1 [] [(4,v30)] fun S=>agR<|qg _ _<|agS fun _ lG=>adr S 1 [] [(29,v30)] (fun S=>?_);have hout:OwnB w.heap.size u v30 (VJ s):=by have:=R.own _ ahZ; unfold OwnB; rw[NK,XC]; exact this
 have hol:(VJ s).length≤1000:=by rw[NK]; omega
 have S0:=S.E.size;refine agZ S (some 30) (yE _ (VJ s) _ (yu hout) (by omega)) ?_;rintro e u ⟨v30,rfl,aaW,E33⟩;refine⟨_,rfl,E33,fun ac S=>?_⟩;refine adr S 2 [] [(2,v30),(3,.i 0)] fun S=>agR<|lG _ _<|Sx.TQ S Tryz.results13 ?_;exact⟨_,rfl,cZ (aaW) S0,S.E⟩
end
section
set_option maxHeartbeats 1600000
set_option maxRecDepth 100000
open Go.RowKit
variable{α:Type}{K:Nat}
theorem TU{l:List UInt8}{p:Nat}(hp:p≤l.length):(En.qo l (p:Int)).2.1≤l.length:=by
 cases h:En.qo l (p:Int)with
 | mk k r =>
  obtain⟨x,er⟩:=r;by_cases he:er=0
  ·subst he; obtain⟨c,-,-,h2,-⟩:=Px.ok1 hp h; exact h2
  rw[Px.EX hp]at h;split at h
  ·simp only[ahg]at h; omega
  simp only[ahg]at h; show x≤_; omega
def KU(l:List UInt8)(p:Nat)(bad:Bool):Bool:=bad||(En.WC l (p:Int)).2.2 != 0
def UE(l:List UInt8)(p:Nat)(bad:Bool):Nat:=if KU l p bad=true then p else (En.WC l (p:Int)).2.1
def UF(l:List UInt8)(p:Nat)(bad:Bool):Int:=if KU l p bad=true then 0 else (En.WC l (p:Int)).1
theorem aaX{l:List UInt8}{p:Nat}:I64 (En.WC l (p:Int)).1:=by
 have:=En.Uc (n:=(En.qo l (p:Int)).1) (Ey l p);exact this
theorem aaY{l:List UInt8}{p nx er:Nat}{x:Int}{bad:Bool}(hu:En.WC l (p:Int)=(x,nx,er))(h:(bad || !decide ((er:Int)=0))=true):KU l p bad=true∧UE l p bad=p∧UF l p bad=0:=by
 have:KU l p bad=true:=by
  unfold KU; rw[hu];cases bad
  ·simp at h ⊢; omega
  rfl
 unfold UE UF; rw[ahf this,ahf this]; exact⟨this,rfl,rfl⟩
theorem ac6{l:List UInt8}{p nx er:Nat}{x:Int}{bad:Bool}(hu:En.WC l (p:Int)=(x,nx,er))(h:(bad || !decide ((er:Int)=0))=false):bad=false∧KU l p bad=false∧UE l p bad=nx∧UF l p bad=x:=by
 have:bad=false∧KU l p bad=false:=by
  unfold KU; rw[hu];cases bad
  ·simp at h ⊢; omega
  simp at h
 unfold UE UF; rw[this.2,hu]; exact⟨this.1,rfl,by simp,by simp⟩
def VK(l:List UInt8)(p:Nat)(bad:Bool):Bool:=bad||((En.qo l (p:Int)).2.2 != 0||decide (l.length-(En.qo l (p:Int)).2.1<(En.qo l (p:Int)).1))
def rcP(l:List UInt8)(p:Nat)(bad:Bool):Nat:=if VK l p bad=true then p else (En.qo l (p:Int)).2.1
def rcV(l:List UInt8)(p:Nat)(bad:Bool):Nat:=if VK l p bad=true then 0 else (En.qo l (p:Int)).1
theorem aaZ{l:List UInt8}{p k nx er:Nat}{bad:Bool}(hu:En.qo l (p:Int)=(k,nx,er))(h:¬(bad=false∧er=0∧k≤l.length-nx)):VK l p bad=true∧rcP l p bad=p∧rcV l p bad=0:=by
 have:VK l p bad=true:=by
  unfold VK; rw[hu];cases bad
  ·simp at h ⊢; omega
  rfl
 unfold rcP rcV; rw[ahf this,ahf this]; exact⟨this,rfl,rfl⟩
theorem ac7{l:List UInt8}{p k nx er:Nat}{bad:Bool}(hu:En.qo l (p:Int)=(k,nx,er))(h:bad=false∧er=0∧k≤l.length-nx):VK l p bad=false∧rcP l p bad=nx∧rcV l p bad=k:=by
 have:VK l p bad=false:=by
  unfold VK; rw[hu];obtain⟨rfl,rfl,h⟩:=h;simp; omega
 unfold rcP rcV; rw[this,hu]; exact⟨rfl,by simp,by simp⟩
theorem nO(v u:Value)(l m:List UInt8)(w:World)(hv:bZ w v l)(hu:bZ w u m) :
  Calls Tryz.prog 42 #[v,u] w fun e w'=>e = .returned (.bool (l==m))∧w=w':=by
 have s1:=jl (P:=Tryz.prog) (src:=23) (e:=5) (dst:=9) Tryz.underlying23 Tryz.underlying5 Tryz.underlying9 hv;have s2:=jl (P:=Tryz.prog) (src:=23) (e:=5) (dst:=9) Tryz.underlying23 Tryz.underlying5 Tryz.underlying9 hu;clear hv hu;go_enter Tryz.func42,Tryz.ntmps42
 go_wp2_with fail
 go_ret
 exact⟨rfl,rfl⟩
theorem mP{w0 w:World}{b p cap:Nat}{a:Option Addr}{bad pk:Bool}{l:List UInt8}(hE:Ext w0 w)(hx:Bx w b #[.slice a l.length cap,.i p,.bool bad,.bool pk])(hb:w0.heap.size≤b)(h:iT w0 (.slice a l.length cap) l)(hp:p≤l.length) :
  Calls Tryz.prog 37 #[.pointer (some ⟨b,0,none⟩)] w fun e w'=>e = .returned (.i (UF l p bad))∧Ext w0 w'∧Ch b w w'∧Bx w' b #[.slice a l.length cap,.i (UE l p bad:Nat),.bool (KU l p bad),.bool pk]:=by
 skip;refine Sx.rG Tryz.func37 Tryz.ntmps37 hE hx hb fun ac S=>agS fun _ aX=>adr S 1 [] [(2,.i 0)] fun S=>agR<|aX _ _<|ag9 (fun _ fH=>?_);obtain⟨xv,nx,er,hu⟩:∃xv nx er,En.WC l (p:Int)=(xv,nx,er):=⟨_,_,_,rfl⟩;have hwb:I64 xv:=by have:=@aaX l p; rw[hu]at this; exact this
 refine ag2 S 15 [.mem 0 0,.mem 0 1] [(_,_,true,.tuple #[.i xv,.i nx,.i er])] [(3,.i xv),(4,.i nx),(18,.i er)] ⟨fun u hC g=>(by have hc:=JF (.slice a l.length cap) l (p:Int) _ (fA (aK.below h (Ext.trans' S.E hC))); rw[hu]at hc; exact hc),trivial⟩ fun ac u E3 S=>adr S 1 [] [(5,.i er)] fun S=>agR<|fH _ _<|ag9 fun _ uQ=>agS fun _ dM=>adr S 8 [.mem 0 2] [(26,.bool (bad||(((er:Int)) != 0)))] fun S=>agR (dM _ _ ?_);refine agU S (fun hc6=>?_) (fun hc6=>?_)
 ·refine agS fun _ jf=>adr S 3 [] [(29,.pointer (some ⟨b,2,none⟩))] fun S=>ahb S 0 (off:=2) (v := .bool true) rfl (fun u C8 S=>?_);have YW:=(kQ ((Ch.trans (Ch.refl b w) (Ch.fV E3))) C8 (by first | exact .inl rfl | exact .inr (by omega)));refine agR<|jf _ _<|agS fun _ gI=>adr S 1 [] [(2,.i 0)] fun S=>agR<|gI _ _<|ahj ?_;have hq:(bad || !decide ((er:Int)=0))=true:=by cases bad<;>simp at hc6 ⊢ <;> omega
  obtain⟨q1,q2,q3⟩:=aaY hu hq;refine ag3 S Tryz.results37 ?_;exact⟨by rw[q3],S.E,YW,by rw[q1,q2]; have:=S.bx 0; exact this⟩
 refine aha<|uQ _ _<|agS fun _ dB=>adr S 4 [] [(31,.i nx),(33,.pointer (some ⟨b,1,none⟩))] fun S=>ahb S 0 (off:=1) (v := .i nx) rfl (fun u C12 S=>?_);have UG:=(kQ ((Ch.trans (Ch.refl b w) (Ch.fV E3))) C12 (by first | exact .inl rfl | exact .inr (by omega)));refine agR<|dB _ _<|agS fun _ fP=>adr S 2 [] [(2,.i xv)] fun S=>agR<|fP _ _<|ahj ?_;have hq:(bad || !decide ((er:Int)=0))=false:=by cases bad<;>simp at hc6 ⊢ <;> omega
 obtain⟨q0,q1,q2,q3⟩:=ac6 hu hq;refine ag3 S Tryz.results37 ?_;exact⟨by rw[q3],S.E,UG,by rw[q1,q2]; have:=S.bx 0; rw[q0]at this; exact this⟩
theorem IG{w0 w:World}{b p cap:Nat}{a:Option Addr}{bad pk:Bool}{l:List UInt8}(hE:Ext w0 w)(hx:Bx w b #[.slice a l.length cap,.i p,.bool bad,.bool pk])(hb:w0.heap.size≤b)(h:iT w0 (.slice a l.length cap) l)(hp:p≤l.length) :
  Calls Tryz.prog 40 #[.pointer (some ⟨b,0,none⟩)] w fun e w'=>e = .returned (.i (rcV l p bad:Nat))∧Ext w0 w'∧Ch b w w'∧Bx w' b #[.slice a l.length cap,.i (rcP l p bad:Nat),.bool (VK l p bad),.bool pk]:=by
 have hml:l.length≤9223372036854775807:=h.len;refine Sx.rG Tryz.func40 Tryz.ntmps40 hE hx hb fun ac S=>agS fun _ aX=>adr S 1 [] [(2,.i 0)] fun S=>agR<|aX _ _<|ag9 (fun _ fH=>?_);obtain⟨kk,nx,er,hu⟩:∃kk nx er,En.qo l (p:Int)=(kk,nx,er):=⟨_,_,_,rfl⟩;have hnx:nx≤l.length:=by have:=@TU l p hp; rw[hu]at this; exact this
 have hkb:kk<18446744073709551616:=by have:=Ey l (p:Int); rw[hu]at this; exact this
 refine ag2 S 15 [.mem 0 0,.mem 0 1] [(_,_,true,.tuple #[.int .u64 (kk:Int),.i nx,.i er])] [(3,.int .u64 (kk:Int)),(4,.i nx),(18,.i er)] ⟨fun u hC g=>(by have hc:=rJ (.slice a l.length cap) l (p:Int) _ (fA (aK.below h (Ext.trans' S.E hC))); rw[hu]at hc; exact hc),trivial⟩ fun ac u E3 S=>adr S 1 [] [(5,.i er)] fun S=>agR<|fH _ _<|ag9 fun _ uQ=>agS fun _ dM=>adr S 20 [.mem 0 2,.mem 0 0,.re 35 (.i (IntKind.i64.wrap ((l.length:Int)-(nx:Int)))) (.i (l.length-nx:Nat)),.re 36 (.int .u64 (IntKind.u64.wrap ((l.length-nx:Nat):Int))) (.int .u64 ((l.length-nx:Nat):Int))] [(38,.bool ((bad||(((er:Int)) != 0))||(decide (((l.length-nx:Nat):Int)<(kk:Int)))))] (hk:=⟨(Sx.iL (by omega) (by omega)),(wrap_u64 (by omega)),trivial⟩) fun S=>agR (dM _ _ ?_);refine agU S (fun hc6=>?_) (fun hc6=>?_)
 ·refine agS fun _ jf=>adr S 3 [] [(41,.pointer (some ⟨b,2,none⟩))] fun S=>ahb S 0 (off:=2) (v := .bool true) rfl (fun u C8 S=>?_);have YW:=(kQ ((Ch.trans (Ch.refl b w) (Ch.fV E3))) C8 (by first | exact .inl rfl | exact .inr (by omega)));refine agR<|jf _ _<|agS fun _ gI=>adr S 1 [] [(2,.i 0)] fun S=>agR<|gI _ _<|ahj ?_;have hq:¬(bad=false∧er=0∧kk≤l.length-nx):=by rintro⟨h1,h2,h3⟩; rw[h1]at hc6; simp at hc6<;>omega
  obtain⟨q1,q2,q3⟩:=aaZ hu hq;refine ag3 S Tryz.results40 ?_;exact⟨by rw[q3]<;>rfl,S.E,YW,by rw[q1,q2]; have:=S.bx 0; exact this⟩
 refine aha<|uQ _ _<|agS (fun _ dB=>?_);have hq:bad=false∧er=0∧kk≤l.length-nx:=by cases bad<;>simp at hc6 ⊢ <;> omega
 refine adr S 4 [] [(43,.i nx),(45,.pointer (some ⟨b,1,none⟩))] fun S=>ahb S 0 (off:=1) (v := .i nx) rfl (fun u C12 S=>?_);have UG:=(kQ ((Ch.trans (Ch.refl b w) (Ch.fV E3))) C12 (by first | exact .inl rfl | exact .inr (by omega)));refine agR<|dB _ _<|agS fun _ fP=>adr S 3 [.re 47 (.i (IntKind.i64.wrap (kk:Int))) (.i kk)] [(2,.i kk)] (hk:=⟨(Sx.iL rfl (by omega)),trivial⟩) fun S=>agR<|fP _ _<|ahj ?_;obtain⟨q1,q2,q3⟩:=ac7 hu hq;refine ag3 S Tryz.results40 ?_;exact⟨by rw[q3]<;>rfl,S.E,UG,by rw[q1,q2]; have:=S.bx 0; rw[hq.1]at this; exact this⟩
theorem II{w:World}{r f:Value} :
  Calls Tryz.prog 39 #[r,.i 0,f] w fun e w'=>e = .returned (.slice none 0 0)∧Ext w w':=by
 skip;refine agX Tryz.func39 Tryz.ntmps39 fun ac S=>agS fun _ aX=>adr S 1 [] [(6,.slice none 0 0)] fun S=>agR<|aX _ _<|agS fun _ fH=>adr S 1 [] [(7,.slice none 0 0)] fun S=>agR<|fH _ _<|ag9 fun _ jK=>agS fun _ uQ=>adr S 2 [] [(8,.i 0),(9,.i 0)] fun S=>agR<|uQ _ _<|ahc<|aiq 1 ?_;rw[ahr];refine agS fun _ dM=>adr S 1 [] [(10,.bool false)] fun S=>agR<|dM _ _<|ag9 fun _ iI=>ag5 S<|ahn<|jK _ _<|agS fun _ jf=>adr S 2 [] [(6,.slice none 0 0)] fun S=>agR<|jf _ _<|agV S Tryz.results39 ?_;exact⟨rfl,S.E⟩
theorem CY{w:World}{v v':Value}{l m:List UInt8}(h:iT w v l)(h':iT w v' m) :
  Calls Tryz.prog 68 #[v,v'] w fun e w'=>e = .returned (.bool (decide (m.length≤l.length)&&(l.take m.length==m)))∧Ext w w':=by
 obtain⟨a,cap,rfl⟩:=h.shape;obtain⟨d,cap',rfl⟩:=h'.shape;refine agX Tryz.func68 Tryz.ntmps68 fun ac S=>agS fun _ aX=>adr S 1 [] [(4,.bool false)] fun S=>agR<|aX _ _<|agS (fun _ fH=>?_);by_cases hq:m.length≤l.length
 ·have hcap:=Sx.Bj h;refine adr S 11 [.re 9 (.bool ((m.length:Int)≤(l.length:Int))) (.bool true),.slc 0 m.length cap cap] [(10,.bool true),(14,.slice (Sx.KL a 0 cap 1) m.length cap),(15,.slice d m.length cap')] (hk:=⟨(ahm Value.bool (ah0 (by omega))),(by omega),trivial⟩) fun S=>Sx.qA S (some 16) (ag6 (nO _ _ (l.take m.length) m _ (fA (aK.below (Sx.Bh h (l:=0) (h':=m.length) (m:=cap) (by omega) hq (by omega) (by omega)) S.E)) (fA (aK.below h' S.E)))) ?_;rintro e u ⟨rfl,E3⟩;refine⟨_,rfl,E3,fun ac S=>?_⟩;refine adr S 2 [] [(4,.bool (l.take m.length==m))] fun S=>agR<|fH _ _<|agV S Tryz.results68 ?_;exact⟨ahm (fun b=>Ending.returned (Value.bool b)) (by rw[ah0 hq,aiC]),S.E⟩
 refine adr S 14 [.re 9 (.bool ((m.length:Int)≤(l.length:Int))) (.bool false),.dead 11 (.bool false),.dead 12 (.bool false),.dead 13 (.bool false),.dead 14 (.bool false),.dead 15 (.bool false),.dead 16 (.bool false)] [(4,.bool false)] (hk:=⟨(ahm Value.bool (ail (by omega))),trivial⟩) fun S=>agR<|fH _ _<|agV S Tryz.results68 ?_;exact⟨ahm (fun b=>Ending.returned (Value.bool b)) (by rw[ail hq,aiT]),S.E⟩
end
end Go.Proofs.YtiafijffnejhoaaGreatDoor
