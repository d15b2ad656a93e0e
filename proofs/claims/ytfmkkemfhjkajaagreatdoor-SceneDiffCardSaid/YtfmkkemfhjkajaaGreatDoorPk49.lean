/- Reference 37: edits. Reference 37: Apply. Reference 37: Diff. The law SceneDiff. -/
import Derived.Test.YtfmkkemfhjkajaaGreatDoorRfI
set_option linter.unusedVariables false
namespace Go.Proofs.YtfmkkemfhjkajaaGreatDoor
open _root_.Go.Proofs.Tryz
section
open Go.RowKit
variable{α:Type}{K:Nat}
def Rf(K:Nat)(r:Except Int (List aF))(v:Value)(code:Int)(l:List aj)(w:World):Prop:=match r with
 | .error n=>code=n
 | .ok κ=>code=0∧dK K w v l∧keys l=κ∧∀n∈l,n.lim
theorem Rf.err{r:Except Int (List aF)}{n:Int}{v:Value}{l:List aj}{w:World}(h:r = .error n):Rf K r v n l w:=by rw[h]; rfl
theorem Rf.ok{r:Except Int (List aF)}{κ:List aF}{v:Value}{l:List aj}{w:World}(h:r = .ok κ)(h1:dK K w v l)(h2:keys l=κ)(h3:∀n∈l,n.lim):Rf K r v 0 l w:=by rw[h]; exact⟨rfl,h1,h2,h3⟩
theorem Rf.zero{r:Except Int (List aF)}{v:Value}{code:Int}{l:List aj}{w:World}(h:Rf K r v code l w)(hr:∀n,r = .error n→n≠0)(hc:code=0):dK K w v l∧r = .ok (keys l)∧∀n∈l,n.lim:=by
 cases r with
 | error n=>exact absurd (h.symm.trans hc) (hr n rfl)
 | ok κ=>exact⟨h.2.1,by rw[h.2.2.1],h.2.2.2⟩
theorem Rf.bad{r:Except Int (List aF)}{v:Value}{code:Int}{l:List aj}{w:World}(h:Rf K r v code l w)(hc:code≠0):r = .error code:=by
 cases r with
 | error n=>rw[show code=n from h]
 | ok κ=>exact absurd h.1 hc
end
section
open Go.RowKit
variable{α:Type}{K:Nat}
theorem aii{s:aT}(h:s.key.valid=true):s.ns.length≤64:=by
 have:=(aQ.oI.1 h).2.1;rwa [show s.key.ns.length=s.ns.length from aob ..]at this
end
section
open Go.RowKit
variable{α:Type}{K:Nat}
theorem flat_get{β:Type}{f:β→List Value}{c:Nat}{l:List β}{k:Nat}{y:β}(hk:k<l.length)(hy:l[k]=y)(hc:∀x,(f x).length=c):((l.flatMap f).drop (0+k*c)).take (f y).length=f y:=by
 have e:l=l.take k++y::l.drop (k+1):=by rw[←hy,←aoo hk,aoE]
 have e2:l.flatMap f=(l.take k).flatMap f++(f y++(l.drop (k+1)).flatMap f):=by conv=>lhs; rw[e,aov,apt]
 have e3:((l.take k).flatMap f).length=0+k*c:=by rw[Sx.jm hc,aoT,aoA (by omega)]; omega
 rw[e2,←e3,List.drop_left,List.take_left]
theorem aee{r:Sx.Row}{v:Value}{E0 es:List aC}{k:Nat}{y:aC}(hk:k<es.length)(hy:es[k]=y):[r,(⟨45,55,v,E0.length+k+1,(E0++es.take k).flatMap aC.cells++y.cells⟩:Sx.Row)]=[r,⟨45,55,v,E0.length+(k+1),(E0++es.take (k+1)).flatMap aC.cells⟩]:=by
 rw[an2 hk,hy,←aoO,aov (xs:=E0++es.take k),apw]; rfl
theorem fU.ow{w0 w:World}{bl:List (Nat×List Value)}{rs:List Sx.Row}{base:Nat}{v:Value}{es:List aC}(h:fU base v es w)(q0:w0.heap.size≤base)(q1:∀b∈Sx.Ob bl rs,b<base) :
  Sx.Ow w0.heap.size (Sx.Ob bl (⟨45,55,v,es.length,es.flatMap aC.cells⟩::rs)) (fun W=>∀e∈es,e.node.mW w0.heap.size W) w:=
 (h.nodes.mono fun i hi=>⟨anN q0 hi.1,fun hm=>by
  rcases aod.1 hm with hm | hm
  ·have:=q1 i (apg _ hm); omega
  ·obtain⟨r,hr,he⟩:=aoL.1 hm
   rcases anS.1 hr with rfl | hr
   ·exact hi.2 he
   ·have:=q1 i (ao0 _ (aoL.2 ⟨r,hr,he⟩)); omega⟩).imp fun _ k e he=>mJ (k e he) q0
set_option maxRecDepth 100000 in
set_option maxHeartbeats 3200000 in
theorem U7{w:World}{s t:aT}(h:dU K w s)(h':dU K w t)(Gl:∀n∈t.ns,n.lim)(hK1:1≤K)(hK2:K≤10000) :
  Calls prog 44 #[s.v,t.v] w fun e w'=>∃(v':Value) (es:List aC) (code:Int),e = .returned (.tuple #[v',.i code])∧fU w.heap.size v' es w'∧(∀e∈es,rP K e)∧(es.map aC.key,code)=zV s.key t.key∧es.length≤300000∧Ext w w':=by
 skip;refine am0 func44 ntmps44 fun ac S=>amW fun _ aO=>amY S 2 s.cells fun ac u b2 E3 hb4 S=>amY S 3 t.cells fun ac u b5 E6 hb7 S=>adr S 2 [] [(4,.slice none 0 0),(5,.i 0)] fun S=>amV<|aO _ _<|anj fun _ dJ=>amW fun _ gZ=>adr S 1 [.mem 1 0] [(9,s.v)] fun S=>am3 S 10 (EJ (K:=K) (s:=s) (h.below S.E)) fun ac u BF S=>am9 S 6 [.mem 0 0] [(_,_,(!(!s.key.valid)),.bool t.key.valid)] [(16,.bool ((!s.key.valid)||(!t.key.valid)))] ⟨fun u hC g=>EJ (K:=K) (s:=t) (h'.below (Ext.trans' S.E hC)),trivial⟩ fun ac u wO S=>amV (gZ _ _ ?_);refine amX S (fun hc12=>?_) (fun hc12=>?_)
 ·refine amW fun _ gJ=>adr S 2 [] [(4,.slice none 0 0),(5,.i 18)] fun S=>amV<|gJ _ _<|Sx.rt2 S results44 ?_;exact⟨_,[],18,rfl,fU.nil,(fun e he=>by cases he),by unfold zV; rw[anv (by simpa using hc12)]; rfl,anz _,S.E⟩
 refine ano<|dJ _ _<|anj fun _ gU=>amW fun _ gV=>adr S 12 [.mem 1 0,.mem 0 0,.mem 1 1,.mem 0 1] [(28,.bool (((s.w) != t.w)||((s.h) != t.h)))] fun S=>amV (gV _ _ ?_);refine amX S (fun hc16=>?_) (fun hc16=>?_)
 ·refine amW fun _ iD=>adr S 2 [] [(4,.slice none 0 0),(5,.i 2)] fun S=>amV<|iD _ _<|Sx.rt2 S results44 ?_;exact⟨_,[],2,rfl,fU.nil,(fun e he=>by cases he),by unfold zV; rw[anq (by have:=hc12; simp at this; simp[this]),anv (show s.key.w≠t.key.w∨s.key.h≠t.key.h from(show s.w≠t.w∨s.h≠t.h by simpa using hc16))]; rfl,anz _,S.E⟩
 refine ano<|gU _ _<|amW (fun _ jH=>?_);have hv1:¬(s.key.valid=false∨t.key.valid=false):=by have:=hc12; simp at this; simp[this]
 have hv2:¬(s.w≠t.w∨s.h≠t.h):=by have:=hc16; simp at this; simp[this]
 have hvs:s.key.valid=true:=by have:=hc12; simp at this; exact this.1
 have hvt:t.key.valid=true:=by have:=hc12; simp at this; exact this.2
 have hsl:=aii hvs;have htl:=aii hvt;have R:=aou S;refine anm S R 29 0 45 55 [] fun ac u v19 Eh X21 R S=>adr S 1 [] [(6,v19)] fun S=>amV<|jH _ _<|anj (fun κq kE=>?_);have J23:∀(E0:List aC) (v6:Value) (ac:Act) (u:World),(Sx.Rw w u [(b5,t.cells),(b2,s.cells)] [⟨45,55,v6,E0.length,E0.flatMap aC.cells⟩])→(E0.map aC.key=bgK s.key t.key)→(∀e∈E0,rP K e∧∀b W,e.node.mW b W)→(E0.length≤1)→Sx.St w ac u 70 [(2,.pointer (some ⟨b2,0,none⟩)),(3,.pointer (some ⟨b5,0,none⟩)),(6,v6)] [(b5,t.cells),(b2,s.cells)] []→κq ac u:=by
  intro E0 v6 ac u R hb0 he0 hn0 S;refine kE _ _<|amW fun _ lq=>adr S 4 [.mem 1 6,.mem 0 6] [(42,s.s),(44,t.s)] (fun S=>?_);have q25:=S.E.size;have q26:=R.lt;refine am4 S (some 45) (JM (h.2.2.below S.E) (h'.2.2.below S.E) (IC hvs) (IC hvt) Gl (by omega) (by omega) hK1 hK2) ?_;rintro e u ⟨v7,e7s,rfl,ho7,hf7,hk7,hl7,E27⟩;obtain⟨a7,c7,ev7⟩:=Sx.iy ho7.row;subst ev7;refine⟨_,rfl,E27,fun ac S=>?_⟩;refine adr S 1 [] [(7,.slice a7 e7s.length c7)] fun S=>amV<|lq _ _<|anj (fun κq kR=>?_);have J29:∀(a7:Option Addr) (c7:Nat) (es:List aC) (ac:Act) (u:World),(Sx.Rw w u [(b5,t.cells),(b2,s.cells)] [⟨45,55,.slice a7 es.length c7,es.length,es.flatMap aC.cells⟩,⟨45,55,v6,E0.length,E0.flatMap aC.cells⟩])→(Sx.Ow w.heap.size (Sx.Ob [(b5,t.cells),(b2,s.cells)] [⟨45,55,.slice a7 es.length c7,es.length,es.flatMap aC.cells⟩,⟨45,55,v6,E0.length,E0.flatMap aC.cells⟩]) (fun W=>∀e∈es,e.node.mW w.heap.size W) u)→(∀e∈es,rP K e)→(es.map aC.key=(if uM (keys s.ns) (keys t.ns)=true then jA (keys s.ns) (keys t.ns)else oZ (keys s.ns) (keys t.ns)))→(es.length≤20000)→Sx.St w ac u 70 [(2,.pointer (some ⟨b2,0,none⟩)),(3,.pointer (some ⟨b5,0,none⟩)),(6,v6),(7,.slice a7 es.length c7)] [(b5,t.cells),(b2,s.cells)] []→κq ac u:=by
   intro a7 c7 es ac u R hN hfit hkeys hel S;refine kR _ _<|anj fun _ mM=>amW fun _ qp=>adr S 1 [] [(8,.i 0)] fun S=>amV<|qp _ _<|anp ?_;refine anP (ι:=Nat×Value) (fun p a' w'=>p.1≤es.length∧(True)∧Sx.Rw w w' [(b5,t.cells),(b2,s.cells)] [⟨45,55,.slice a7 es.length c7,es.length,es.flatMap aC.cells⟩,⟨45,55,p.2,E0.length+p.1,(E0++es.take p.1).flatMap aC.cells⟩]∧Sx.Ow w.heap.size (Sx.Ob [(b5,t.cells),(b2,s.cells)] [⟨45,55,.slice a7 es.length c7,es.length,es.flatMap aC.cells⟩,⟨45,55,p.2,E0.length+p.1,(E0++es.take p.1).flatMap aC.cells⟩]) (fun W=>∀e∈es,e.node.mW w.heap.size W) w'∧Sx.St w a' w' 70 [(2,.pointer (some ⟨b2,0,none⟩)),(3,.pointer (some ⟨b5,0,none⟩)),(6,p.2),(7,.slice a7 es.length c7),(8,.i p.1)] [(b5,t.cells),(b2,s.cells)] []) (fun p=>es.length-p.1) (0,v6) ⟨anz _,trivial,R.as (show [(⟨45,55,.slice a7 es.length c7,es.length,es.flatMap aC.cells⟩:Sx.Row),⟨45,55,v6,E0.length,E0.flatMap aC.cells⟩]=[⟨45,55,.slice a7 es.length c7,es.length,es.flatMap aC.cells⟩,⟨45,55,v6,E0.length+0,(E0++es.take 0).flatMap aC.cells⟩] by rw[List.take_zero,aoK]; rfl),hN,S.sn⟩ ?_;rintro⟨k,v⟩ ac u hI;try dsimp only at hI
   obtain⟨hk,hR,R,aij,S⟩:=hI;refine anj fun _ jF=>amW fun _ mF=>adr S 4 [] [(59,.bool ((k:Int)<(es.length:Int)))] fun S=>amV (mF _ _ ?_);refine amX S (fun hc34=>?_) (fun hc34=>?_)
   ·refine ano<|jF _ _<|anj fun _ nI=>anp ?_;have hkl:k<es.length:=by have:=anC hc34; omega
    obtain⟨g,rfl⟩:=FV (R.own _ anK) (by show 0<es.length; omega);obtain⟨y,hy⟩:∃z,es[k]=z:=⟨_,rfl⟩;obtain⟨hr,hg,hn⟩:=R.range anK rfl (0+k*55) (cs:=y.cells) (flat_get hkl hy (fun _=>rfl));have S:=S.view hg hr hn;refine ant<|adr S 5 [.idx k es.length,.mem 2 0] [(62,v),(66,y.v)] (hk:=⟨hkl,trivial⟩) fun S=>ani S 67 1 y.cells (fun ac u b36 Jl ak8 S=>?_);obtain⟨R,Y39⟩:=R.bC S (aos Jl ak8);refine anh S R 1 68 rfl qc (Sx.nJ (m:=1) (k:=55) (A:=y.cells) (S.bx 0)) (by show E0.length+k+1≤9223372036854775807; omega) (by show(E0.length+k+1)*696≤140737488355328; omega) fun ac u v40 X41 R S=>adr S 1 [] [(6,v40)] fun S=>amV<|nI _ _<|ant<|adr S 3 [.re 61 (.i (IntKind.i64.wrap ((k:Int)+1))) (.i (k+1:Nat))] [(8,.i (k+1:Nat))] (hk:=⟨am8 (by omega),trivial⟩) fun S=>amV ?_;have S:=S.lu 1;obtain⟨R,Y42⟩:=R.bC S (aoQ 1);show ∃i',_∧_;exact⟨((k+1),v40),⟨by omega,trivial,R.as (aee hkl hy),(anL aij (anA Y39 (anA X41 Y42))),S.sn⟩,by show _-_<_-_; omega⟩
   refine anB<|mM _ _<|amW fun _ rE=>adr S 3 [] [(4,v),(5,.i 0)] fun S=>amV<|rE _ _<|anr ?_;have hF:=aij;have hkk:k=es.length:=by have:=anE hc34; omega
   have ho:=R.own _ (aot _ anK);simp only[hkk,aoq]at ho;refine aol S results44 ?_;exact⟨_,E0++es,0,rfl,⟨by rw[anX]; exact ho,(hF.mono fun i hi=>⟨hi.1,fun e=>hi.2 (Sx.eY (aot _ anK) e)⟩).imp fun _ k=>qL (P:=fun e=>e.node.mW w.heap.size _) (fun e he=>(he0 e he).2 _ _) k⟩,qL (fun e he=>(he0 e he).1) hfit,OQ hv1 hv2 hb0 rfl hkeys,by rw[anX]; omega,S.E⟩
  refine amW fun _ vg=>adr S 4 [.mem 1 6,.mem 0 6] [(47,s.s),(49,t.s)] fun S=>am3 S 50 (U6 (h.2.2.below S.E) (h'.2.2.below S.E)) fun ac u OT S=>amV (vg _ _ ?_);refine amX S (fun vG=>?_) (fun vG=>?_)
  ·have hlk:uM (keys s.ns) (keys t.ns)=true:=vG;refine ant<|adr S 4 [.mem 1 6,.mem 0 6] [(52,s.s),(54,t.s)] (fun S=>?_);obtain⟨R,Y47⟩:=R.bC S (anA (anR E27) (anR OT));have q48:=S.E.size;have q49:=R.lt;refine am4 S (some 55) (IV (h.2.2.below S.E) (h'.2.2.below S.E) Gl (Gj hlk) (by omega)) ?_;rintro e u ⟨v8,e8s,rfl,ho8,hf8,hk8,hl8,E50⟩;obtain⟨a8,c8,ev8⟩:=Sx.iy ho8.row;subst ev8;refine⟨_,rfl,E50,fun ac S=>?_⟩;refine adr S 1 [] [(7,.slice a8 e8s.length c8)] (fun S=>?_);obtain⟨R,Y51⟩:=R.bC S (anR E50);refine amV ?_;exact J29 a8 c8 e8s _ _ (R.add (r:=⟨45,55,.slice a8 e8s.length c8,e8s.length,e8s.flatMap aC.cells⟩) (ho8).row q49 q48) (fU.ow (ho8) q48 q49) hf8 (by rw[anv vG]; exact hk8) (by omega) S.sn
  refine ano ?_;obtain⟨R,Y52⟩:=R.bC S (anA (anR E27) (anR OT));exact J29 a7 c7 e7s _ _ (R.add (r:=⟨45,55,.slice a7 e7s.length c7,e7s.length,e7s.flatMap aC.cells⟩) ((fU.ext ho7 OT)).row q26 q25) (fU.ow ((fU.ext ho7 OT)) q25 q26) hf7 (by rw[anq (by simp[vG])]; exact hk7) (by omega) S.sn
 refine amW fun _ EP=>adr S 5 [.mem 1 2,.mem 0 2,.cmp .neq 23 (.tmp 31) (.tmp 33) (.agg #[.int .u8 (s.bg.r.toNat:Int),.int .u8 (s.bg.g.toNat:Int),.int .u8 (s.bg.b.toNat:Int),.int .u8 (s.bg.a.toNat:Int)]) (.agg #[.int .u8 (t.bg.r.toNat:Int),.int .u8 (t.bg.g.toNat:Int),.int .u8 (t.bg.b.toNat:Int),.int .u8 (t.bg.a.toNat:Int)]) (.bool (!decide (s.bg=t.bg)))] [(34,.bool (!decide (s.bg=t.bg)))] (hk:=⟨(ang (fun _=>Tv s.bg t.bg _) (by kernel_rfl)),trivial⟩) fun S=>amV (EP _ _ ?_);refine amX S (fun U8=>?_) (fun U8=>?_)
 ·refine ant<|adr S 4 [.mem 0 2] [(35,v19),(38,.agg (Sx.L [.i 5,.i 0,.i 0,.i 0,.i 0,.i 0,.i 0]++Sx.za++Sx.L [.slice none 0 0,.i 0,.int .u8 0,.i 0,.bool false,.bool false,.slice none 0 0,.i 0,.slice none 0 0,.i 0,.i 0,.i 0,.i 0,.slice none 0 0,.i 0,.slice none 0 0,.i 0,.i 0,.slice none 0 0,.i 0]++t.bg.cells).toArray)] fun S=>ani S 39 1 (Sx.L [.i 5,.i 0,.i 0,.i 0,.i 0,.i 0,.i 0]++Sx.za++Sx.L [.slice none 0 0,.i 0,.int .u8 0,.i 0,.bool false,.bool false,.slice none 0 0,.i 0,.slice none 0 0,.i 0,.i 0,.i 0,.i 0,.slice none 0 0,.i 0,.slice none 0 0,.i 0,.i 0,.slice none 0 0,.i 0]++t.bg.cells) (fun ac u b55 E56 ak9 S=>?_);obtain⟨R,Y58⟩:=R.bC S (aos E56 ak9);refine anh S R 0 40 rfl qc (Sx.nJ (m:=1) (k:=55) (A:=(Sx.L [.i 5,.i 0,.i 0,.i 0,.i 0,.i 0,.i 0]++Sx.za++Sx.L [.slice none 0 0,.i 0,.int .u8 0,.i 0,.bool false,.bool false,.slice none 0 0,.i 0,.slice none 0 0,.i 0,.i 0,.i 0,.i 0,.slice none 0 0,.i 0,.slice none 0 0,.i 0,.i 0,.slice none 0 0,.i 0]++t.bg.cells)) (S.bx 0)) (by show 0+1≤9223372036854775807; decide) (by show(0+1)*696≤140737488355328; decide) fun ac u v59 X60 R S=>adr S 1 [] [(6,v59)] (fun S=>?_);have S:=S.lu 1;have R:=R.lu 1;refine amV ?_;exact J23 ([(⟨5,0,0,0,gK,t.bg⟩:aC)]) v59 _ _ (R.as (show _=[(⟨45,55,v59,([(⟨5,0,0,0,gK,t.bg⟩:aC)]).length,([(⟨5,0,0,0,gK,t.bg⟩:aC)]).flatMap aC.cells⟩:Sx.Row)] by rw[apw]; rfl)) (Tq U8) (fun e he=>by rw[aoe.1 he]; exact⟨⟨(show I64 5 by decide),(show I64 0 by decide),(show I64 0 by decide),(show I64 0 by decide),vW hK1 hK2 w⟩,fun b W=>BK b W⟩) (anw _) S.sn
 refine ano ?_;exact J23 ([]) v19 _ _ R (aaB U8) (fun e he=>by cases he) (anz _) S.sn
end
section
open Go.RowKit
variable{α:Type}{K:Nat}
theorem Xi{w:World}{s:aT}{n:Int}(h:s.few n=true)(ho:s.ok w):dU 20 w s∧(∀n∈s.ns,n.lim):=⟨(Q7 h ho.1 ho.2.1 ho.2.2).1,(Q7 h ho.1 ho.2.1 ho.2.2).2.1⟩
theorem aef{s t:aQ}{es fs:List aC}{code why:Int}(h:(es.map aC.key,code)=zV s t)(h':(fs.map aC.key,why)=zV s t):es.map aC.key=fs.map aC.key∧why=code:=by
 have:=h.trans h'.symm;exact⟨anu Prod.fst this,(anu Prod.snd this).symm⟩
set_option maxRecDepth 100000 in
set_option maxHeartbeats 3200000 in
theorem JD{w:World}{s t:aT}(h:s.ok w)(h':t.ok w)(hg:lG w) :
  Calls prog 11 #[s.v,t.v] w fun r w'=>r = .returned (.bool true)∧Ext w w':=by
 skip;refine am0 func11 ntmps11 fun ac S=>amW fun _ aO=>amY S 2 s.cells fun ac u b2 E3 hb4 S=>amY S 3 t.cells fun ac u b5 E6 hb7 S=>adr S 1 [] [(4,.bool false)] fun S=>amV<|aO _ _<|anj fun _ dJ=>amW fun _ gZ=>adr S 1 [.mem 1 0] [(9,s.v)] fun S=>am3 S 10 (KZ ⟨(h.2.2.1.below S.E),fun n hn=>(h.2.2.2 n hn).below S.E⟩ 12) fun ac u BF S=>am9 S 6 [.mem 0 0] [(_,_,(!(!(s.few 12))),.bool (t.few 12))] [(16,.bool ((!(s.few 12))||(!(t.few 12))))] ⟨fun u hC g=>KZ ⟨(h'.2.2.1.below (Ext.trans' S.E hC)),fun n hn=>(h'.2.2.2 n hn).below (Ext.trans' S.E hC)⟩ 12,trivial⟩ fun ac u wO S=>amV (gZ _ _ ?_);refine amX S (fun hc12=>?_) (fun hc12=>?_)
 ·refine amW fun _ gJ=>am3 S 17 (wK (hg.below S.E)) fun ac u Dj S=>adr S 1 [] [(4,.bool true)] fun S=>amV<|gJ _ _<|amZ S results11 ?_;exact⟨rfl,S.E⟩
 refine ano<|dJ _ _<|amW (fun _ gV=>?_);have hcc:s.few 12=true∧t.few 12=true:=by simpa using hc12
 have hs:=Xi hcc.1 h;have ht:=Xi hcc.2 h';refine adr S 2 [.mem 1 0,.mem 0 0] [(19,s.v),(20,t.v)] fun S=>am4 S (some 21) (Tt (K:=20) (hs.1.below S.E) (ht.1.below S.E) (hg.below S.E) ht.2 (by decide) (by decide)) ?_;rintro e u ⟨v,es,code,rfl,hown,hfit,hkey,hlen,Oq⟩;obtain⟨a5,c5,e5⟩:=Sx.iy hown.row;subst e5;refine⟨_,rfl,Oq,fun ac S=>?_⟩;refine adr S 5 [] [(5,.slice a5 es.length c5),(6,.i code)] fun S=>amV<|gV _ _<|amW fun _ iD=>adr S 2 [.mem 1 0,.mem 0 0] [(25,s.v),(26,t.v)] fun S=>am4 S (some 27) (U7 (K:=20) (hs.1.below S.E) (ht.1.below S.E) ht.2 (by decide) (by decide)) ?_;rintro e u ⟨v2,fs,why,rfl,hown2,aik,ail,hlen2,Dy⟩;obtain⟨a7,c7,e7⟩:=Sx.iy hown2.row;subst e7;obtain⟨hkk,rfl⟩:=aef hkey ail;refine⟨_,rfl,Dy,fun ac S=>?_⟩;refine adr S 5 [] [(7,.slice a7 fs.length c7),(8,.i why)] fun S=>amV<|iD _ _<|amW fun _ ji=>adr S 2 [] [(30,.slice a5 es.length c5),(31,.slice a7 fs.length c7)] fun S=>am3 S 32 (Rh (K:=20) (fU.is ((fU.ext hown Dy)) hfit) (fU.is (hown2) aik) hkk) fun ac u Eh S=>adr S 6 [.re 36 (.bool ((why)==why)) (.bool true)] [(38,.bool true)] (hk:=⟨(anu Value.bool (by simp)),trivial⟩) fun S=>Sx.Bc S (some 39) (wK (hg.below S.E)) ?_;rintro e u ⟨rfl,ES⟩;refine⟨_,rfl,ES,fun ac S=>?_⟩;refine adr S 2 [] [(4,.bool true)] fun S=>amV<|ji _ _<|amZ S results11 ?_;exact⟨rfl,S.E⟩
end
end Go.Proofs.YtfmkkemfhjkajaaGreatDoor
