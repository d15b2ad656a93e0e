/- Reference 37: Clone. Scenes that are clones. Reference -/
import Derived.Test.YtfmkkemfhjkajaaGreatDoorRfA
import Derived.Test.YtfmkkemfhjkajaaGreatDoorPk40
import Derived.Test.YtfmkkemfhjkajaaGreatDoorCln36c
import Derived.Test.YtfmkkemfhjkajaaGreatDoorRfC
import Derived.Test.YtfmkkemfhjkajaaGreatDoorEx37
import Derived.Test.YtfmkkemfhjkajaaGreatDoorPk32
import Derived.Test.YtfmkkemfhjkajaaGreatDoorPk42
set_option linter.unusedVariables false
namespace Go.Proofs.YtfmkkemfhjkajaaGreatDoor
section
open Go.RowKit
variable{α:Type}{K:Nat}
set_option maxRecDepth 100000 in
set_option maxHeartbeats 3200000 in
theorem yx{w:World}{s:aF}(h:bP K w s)(hlim:∀n∈s.ns,n.lim)(hn:s.ns.length≤100000) :
  Calls Tryz.prog 27 #[s.v] w fun e w'=>∃m:aF,e = .returned m.v∧m.own w.heap.size w'∧m.ns.map aj.strip=s.ns.map aj.strip∧m.w=s.w∧m.h=s.h∧m.bg=s.bg∧Ext w w':=by
 have hmax:s.ns.length≤9223372036854775807:=by omega
 refine akk Tryz.func27 Tryz.ntmps27 (fun ac S=>?_);obtain⟨a,cap,es⟩:∃a c,s.s = .slice a s.ns.length c:=⟨_,_,rfl⟩;have hr:=h.2.2.1;rw[es]at hr;refine akg fun _ aP=>akh S 1 s.cells fun ac u b2 E3 hb4 S=>akh S 2 [.i 0,.i 0,.int .u8 0,.int .u8 0,.int .u8 0,.int .u8 0,.slice none 0 0] fun ac u b5 E6 hb7 S=>akf<|aP _ _<|akg (fun _ dM=>?_);have R:=Sx.Rw.nil S;refine akG S R 5 0 43 47 [] fun ac u v9 zV TF R S=>adr S 1 [] [(3,v9)] fun S=>akf<|dM _ _<|wp_seq_k fun _ bV=>akg fun _ gJ=>adr S 1 [] [(4,.i 0)] fun S=>akf<|gJ _ _<|wp_block ?_;refine Vp.loop (ι:=Nat×Value×List aj) (fun p a' w'=>p.1≤s.ns.length∧(p.2.2.map aj.strip=(s.ns.take p.1).map aj.strip)∧Sx.Rw w w' [(b5,[.i 0,.i 0,.int .u8 0,.int .u8 0,.int .u8 0,.int .u8 0,.slice none 0 0]),(b2,s.cells)] [⟨43,47,p.2.1,p.1,p.2.2.flatMap aj.cells⟩]∧Sx.Ow w.heap.size (Sx.Ob [(b5,[.i 0,.i 0,.int .u8 0,.int .u8 0,.int .u8 0,.int .u8 0,.slice none 0 0]),(b2,s.cells)] [⟨43,47,p.2.1,p.1,p.2.2.flatMap aj.cells⟩]) (fun W=>∀z∈p.2.2,z.oN w.heap.size W) w'∧Sx.St w a' w' 30 [(0,s.v),(1,.pointer (some ⟨b2,0,none⟩)),(2,.pointer (some ⟨b5,0,none⟩)),(3,p.2.1),(4,.i p.1)] [(b5,[.i 0,.i 0,.int .u8 0,.int .u8 0,.int .u8 0,.int .u8 0,.slice none 0 0]),(b2,s.cells)] []) (fun p=>s.ns.length-p.1) (0,v9,[]) ⟨Nat.zero_le _,rfl,R,(fun _ _ _ z hz=>by cases hz),S.sn⟩ ?_;rintro⟨k,v,M⟩ ac u hI;try dsimp only at hI
 obtain⟨hk,hR,R,qY,S⟩:=hI;refine wp_seq_k fun _ fC=>akg fun _ fP=>adr S 5 [.mem 1 6,.re 8 s.s (.slice a s.ns.length cap)] [(10,.bool ((k:Int)<(s.ns.length:Int)))] (hk:=⟨es,trivial⟩) fun S=>akf (fP _ _ ?_);refine aki S (fun hc16=>?_) (fun hc16=>?_)
 ·refine wp_skip<|fC _ _<|wp_seq_k fun _ gI=>wp_block ?_;have q18:=S.E.size;have q19:=R.lt;refine Vp.region ?_;have uG:k<s.ns.length:=by have:=of_decide_eq_true hc16; omega
  obtain⟨b20,o21,rfl,KZ,hx24,FM,RP⟩:=Vp.gY hr (fun _=>rfl) (k) uG;have S:=S.view0 FM RP;refine adr S 6 [.mem 1 6,.re 15 s.s (.slice (some ⟨b20,o21,none⟩) s.ns.length cap),.idx k s.ns.length,.mem 2 0] [(13,v),(18,KZ.v)] (hk:=⟨es,uG,trivial⟩) fun S=>ako S (some 19) (Oc ((h.2.2.2 _ (hx24▸List.getElem_mem uG)).1.below S.E) (hlim _ (hx24▸List.getElem_mem uG))) ?_;rintro e u ⟨m,rfl,hm,hms,Y5⟩;refine⟨_,rfl,Y5,fun ac S=>?_⟩;obtain⟨R,Y29⟩:=R.cO S (Sx.Stp.ext Y5);have G30:=Sx.On.imp (Sx.dY.ow hm q18 q19) fun _ h=>yu h q18;refine akC S 20 1 m.cells (fun ac u b31 E32 acI S=>?_);have hM:M.length=k:=by have:=congrArg List.length hR; simp at this; omega
  obtain⟨R,Y34⟩:=R.cO S (Sx.Stp.uy E32 acI);refine Sx.app S R 0 21 rfl qU (Sx.vW (m:=1) (k:=47) (A:=m.cells) (S.bx 0)) (by show k+1≤9223372036854775807; omega) (by show(k+1)*656≤140737488355328; omega) fun ac u v35 X36 R S=>adr S 1 [] [(3,v35)] fun S=>akf<|gI _ _<|Vp.region<|adr S 3 [.re 12 (.i (IntKind.i64.wrap ((k:Int)+1))) (.i (k+1:Nat))] [(4,.i (k+1:Nat))] (hk:=⟨aks (by omega),trivial⟩) fun S=>akf ?_;have S:=S.oq 1;obtain⟨R,Y37⟩:=R.cO S (Sx.Stp.uX 1);show ∃i',_∧_;exact⟨((k+1),v35,M++[m]),⟨by omega,(Ed uG hx24 hR hms),R.as (congrArg (fun xs=>[(⟨43,47,v35,k+1,xs⟩:Sx.Row)]) (show M.flatMap aj.cells++m.cells=(M++[m]).flatMap aj.cells by simp)),Sx.On.imp (Sx.On.and (Sx.On.step qY (Sx.Stp.trans Y29 (Sx.Stp.trans Y34 (Sx.Stp.trans X36 Y37)))) (Sx.On.step G30 (Sx.Stp.trans Y34 (Sx.Stp.trans X36 Y37)))) fun _ h=>BZ h.1 h.2,S.sn⟩,by show _-_<_-_; omega⟩
 refine wp_exit<|bV _ _<|akg (fun _ jC=>?_);have hk:=of_decide_eq_false hc16;obtain rfl:k=s.ns.length:=by omega
 rw[List.take_length]at hR;have hM:M.length=s.ns.length:=by have:=congrArg List.length hR; simpa using this
 rw[←hM]at R;obtain⟨a1,c1,e1⟩:=Sx.lF (R.own _ List.mem_cons_self);replace e1:v = .slice a1 M.length c1:=e1;subst e1;refine adr S 8 [.mem 1 0,.mem 1 1,.mem 1 2] [(29,.agg (Sx.L [.i s.w,.i s.h]++s.bg.cells++Sx.L [.slice a1 M.length c1]).toArray)] fun S=>akl S 0 (off:=0) (cs:=(Sx.L [.i s.w,.i s.h]++s.bg.cells++Sx.L [.slice a1 M.length c1])) rfl fun u YZ S=>akf<|jC _ _<|Vp.rt ?_;obtain⟨R,Y40⟩:=R.cO S (Sx.Stp.AU YZ (by simp[Sx.vb]));have hF:=(Sx.On.step qY Y40);have ho:=R.own _ List.mem_cons_self;exact Sx.Lh S 0 Tryz.results27 rfl (v := .agg (aF.cells ⟨s.w,s.h,s.bg,a1,c1,M⟩).toArray) ⟨⟨s.w,s.h,s.bg,a1,c1,M⟩,rfl,⟨ho,hF.mono fun i hi=>⟨hi.1,fun e=>hi.2 (Sx.jE List.mem_cons_self e)⟩⟩,hR,rfl,rfl,rfl,S.E⟩
end
section
open Go.RowKit
variable{α:Type}{K:Nat}
theorem Aw{w:World}{v:Value}{l:List aj}(h:iq K w v l):∀n∈l,n.Uh K:=fun n hn=>(h.2 n hn).2
theorem Ql{base:Nat}{w w':World}{s c:aF}(h:bP K w s)(hc:fK base c.s c.ns w')(hs:c.ns.map aj.strip=s.ns.map aj.strip)(hw:c.w=s.w)(hh:c.h=s.h):bP K w' c:=
 ⟨hw▸h.1,hh▸h.2.1,hc.ok (fits_all hs (Aw h.2.2))⟩
theorem abb{s c:aF}(hs:c.ns.map aj.strip=s.ns.map aj.strip)(hw:c.w=s.w)(hh:c.h=s.h)(hb:c.bg=s.bg):c.key=s.key:=by
 unfold aF.key;rw[hw,hh,hb,wL hs]
theorem Ym{s:aF}(h:s.key.valid=true){x:aj}(hx:x∈s.ns):0≤x.depth∧x.depth<8:=by
 obtain⟨i,hi,rfl⟩:=List.getElem_of_mem hx;exact JZ h hi
end
section
open Go.RowKit
variable{α:Type}{K:Nat}
theorem abd{s:aO}{e:eX}{n:Int}(hv:s.valid=true)(hn:e.named=true)(h:fJ s.ns e = .error n):dP s e=(.zero,n):=by
 unfold dP;rw[if_neg (by simp[hv]),if_neg (by simp[hn]),h]
theorem VY{s t:aO}{e:eX}{l:List aI}(hv:s.valid=true)(hn:e.named=true)(h:fJ s.ns e = .ok l)(ht:s.with' e l=t):dP s e=if t.chk.1=0 then (t,0)else (.zero,t.chk.1):=by
 unfold dP;rw[if_neg (by simp[hv]),if_neg (by simp[hn]),h];simp only[ht]
theorem afk{s:aF}(h:s.key.valid=true):s.ns.length≤64:=by
 have:=(aO.nG.1 h).2.1;rwa [show s.key.ns.length=s.ns.length from List.length_map ..]at this
theorem VZ{s:aF}(h:s.key.chk.1=0):s.ns.length≤64:=afk (by unfold aO.valid; simpa using h)
set_option maxRecDepth 100000 in
set_option maxHeartbeats 3200000 in
theorem Eh{w:World}{s:aF}{e:aX}(h:bP K w s)(he:oZ K w e)(hlim:∀n∈s.ns,n.lim)(hel:e.node.lim) :
  Calls Tryz.prog 18 #[s.v,e.v] w fun r w'=>∃(t:aF) (code:Int),r = .returned (.tuple #[t.v,.i code])∧Le w.heap.size K s e code t w'∧Ext w w':=by
 skip;refine akk Tryz.func18 Tryz.ntmps18 fun ac S=>akg fun _ aP=>akh S 2 s.cells fun ac u b2 E3 hb4 S=>akh S 3 e.cells fun ac u b5 E6 hb7 S=>akh S 4 [.i 0,.i 0,.int .u8 0,.int .u8 0,.int .u8 0,.int .u8 0,.slice none 0 0] fun ac u b8 E9 vS S=>adr S 1 [] [(5,.i 0)] fun S=>akf<|aP _ _<|wp_seq_k fun _ dn=>akg fun _ bV=>adr S 1 [.mem 2 0] [(9,s.v)] fun S=>akn S 10 (Ei (h.below S.E)) fun ac u Et S=>adr S 1 [] [(11,.bool (!s.key.valid))] fun S=>akf (bV _ _ ?_);refine aki S (fun lW=>?_) (fun lW=>?_)
 ·refine akg fun _ fP=>adr S 1 [] [(12,.agg #[.i 0,.i 0,.int .u8 0,.int .u8 0,.int .u8 0,.int .u8 0,.slice none 0 0])] fun S=>akl S 0 (off:=0) (cs:=[.i 0,.i 0,.int .u8 0,.int .u8 0,.int .u8 0,.int .u8 0,.slice none 0 0]) rfl fun u Rz S=>adr S 1 [] [(5,.i 18)] fun S=>akf<|fP _ _<|Vp.rt ?_;refine Sx.wZ S 0 Tryz.results18 rfl (v := .agg (aF.cells .zero).toArray) (u := .i 18) ⟨.zero,_,rfl,jA (by unfold dP; rw[if_pos (by simpa using lW)]),S.E⟩
 refine wp_skip<|dn _ _<|wp_seq_k fun _ gI=>akg (fun _ jm=>?_);have hv:s.key.valid=true:=by simpa using lW
 refine adr S 1 [.mem 1 0] [(13,e.v)] fun S=>akn S 14 (Qm (he.below S.E)) fun ac u RH S=>adr S 1 [] [(15,.bool (!e.key.named))] fun S=>akf (jm _ _ ?_);refine aki S (fun tJ=>?_) (fun tJ=>?_)
 ·refine akg fun _ jJ=>adr S 1 [] [(16,.agg #[.i 0,.i 0,.int .u8 0,.int .u8 0,.int .u8 0,.int .u8 0,.slice none 0 0])] fun S=>akl S 0 (off:=0) (cs:=[.i 0,.i 0,.int .u8 0,.int .u8 0,.int .u8 0,.int .u8 0,.slice none 0 0]) rfl fun u ZI S=>adr S 1 [] [(5,.i 2)] fun S=>akf<|jJ _ _<|Vp.rt ?_;refine Sx.wZ S 0 Tryz.results18 rfl (v := .agg (aF.cells .zero).toArray) (u := .i 2) ⟨.zero,_,rfl,jA (by unfold dP; rw[if_neg (by simp[hv]),if_pos (by simpa using tJ)]),S.E⟩
 refine wp_skip<|gI _ _<|akg (fun _ jU=>?_);have hno:e.key.named=true:=by simpa using tJ
 refine adr S 3 [.mem 2 6,.mem 1 0] [(19,s.s),(20,e.v)] fun S=>ako S (some 21) (Jj (e:=e) (h.2.2.below S.E) (he.below S.E) hel (fun n hn=>Ym hv hn) hlim (by have:=afk hv; omega)) ?_;rintro e u ⟨vl,why,l,rfl,hr9,Nz⟩;refine⟨_,rfl,Nz,fun ac S=>?_⟩;refine adr S 5 [] [(6,vl),(7,.i why)] fun S=>akf<|jU _ _<|wp_seq_k fun _ nZ=>akg fun _ kN=>adr S 2 [] [(25,.bool ((why) != 0))] fun S=>akf (kN _ _ ?_);refine aki S (fun hc27=>?_) (fun hc27=>?_)
 ·refine akg fun _ jh=>adr S 2 [] [(26,.agg #[.i 0,.i 0,.int .u8 0,.int .u8 0,.int .u8 0,.int .u8 0,.slice none 0 0]),(27,.i why)] fun S=>akl S 0 (off:=0) (cs:=[.i 0,.i 0,.int .u8 0,.int .u8 0,.int .u8 0,.int .u8 0,.slice none 0 0]) rfl fun u C29 S=>adr S 1 [] [(5,.i why)] fun S=>akf<|jh _ _<|Vp.rt ?_;refine Sx.wZ S 0 Tryz.results18 rfl (v := .agg (aF.cells .zero).toArray) (u := .i why) ⟨.zero,_,rfl,jA (abd hv hno (hr9.bad (by simpa using hc27))),S.E⟩
 refine wp_skip<|nZ _ _<|akg (fun _ jM=>?_);obtain⟨hl9,hnk,acT⟩:=hr9.zero (fun n h=>Uo h) (by simpa using hc27);obtain⟨a9,c9,e9⟩:=hl9.1.shape;subst e9;obtain⟨u8,hu8⟩:∃z:World,z=u:=⟨_,rfl⟩;subst hu8;refine adr S 8 [.mem 2 0,.mem 2 1,.mem 2 2] [(35,.agg (Sx.L [.i s.w,.i s.h]++s.bg.cells++Sx.L [.slice a9 l.length c9]).toArray)] fun S=>akh S 8 [.i 0,.i 0,.int .u8 0,.int .u8 0,.int .u8 0,.int .u8 0,.slice none 0 0] fun ac u b31 E32 acI S=>akl S 0 (off:=0) (cs:=(Sx.L [.i s.w,.i s.h]++s.bg.cells++Sx.L [.slice a9 l.length c9])) rfl (fun u WR S=>?_);have Jr:=akp E32 WR (by omega);refine akf<|jM _ _<|wp_seq_k fun _ lG=>akg fun _ oM=>adr S 3 [.mem 2 0] [(38,.bool ((e.kind)==5))] fun S=>akf (oM _ _ ?_);refine aki S (fun hc38=>?_) (fun hc38=>?_)
 ·refine Vp.region<|adr S 3 [.mem 2 51] [(40,.agg e.color.cells.toArray),(41,.pointer (some ⟨b31,2,none⟩))] fun S=>akl S 0 (off:=2) (cs:=e.color.cells) rfl (fun u YZ S=>?_);have KU:=akp Jr YZ (by omega);refine akf<|lG _ _<|akg (fun _ pJ=>?_);have hwt:s.key.with' e.key (keys l)=(⟨s.w,s.h,e.color,a9,c9,l⟩:aF).key:=by unfold aO.with'; rw[if_pos (show(e.key.kind=5)from(show(e.kind=5) by simpa using hc38))]; rfl
  have hap:=VY hv hno hnk hwt;refine adr S 1 [.mem 0 0] [(43,.agg (Sx.L [.i s.w,.i s.h]++e.color.cells++Sx.L [.slice a9 l.length c9]).toArray)] fun S=>akn S 44 (yA (K:=K) (s:=(⟨s.w,s.h,e.color,a9,c9,l⟩:aF)) ⟨h.1,h.2.1,(iq.below hl9 (Ext.trans' (Ext.rfl' (w:=u8)) KU))⟩) fun ac u E42 S=>adr S 4 [] [(7,.i ((⟨s.w,s.h,e.color,a9,c9,l⟩:aF).key.chk.1))] fun S=>akf<|pJ _ _<|wp_seq_k fun _ rY=>akg fun _ uw=>adr S 2 [] [(48,.bool (((⟨s.w,s.h,e.color,a9,c9,l⟩:aF).key.chk.1) != 0))] fun S=>akf (uw _ _ ?_);refine aki S (fun wI=>?_) (fun wI=>?_)
  ·refine akg fun _ xk=>adr S 2 [] [(49,.agg #[.i 0,.i 0,.int .u8 0,.int .u8 0,.int .u8 0,.int .u8 0,.slice none 0 0]),(50,.i ((⟨s.w,s.h,e.color,a9,c9,l⟩:aF).key.chk.1))] fun S=>akl S 1 (off:=0) (cs:=[.i 0,.i 0,.int .u8 0,.int .u8 0,.int .u8 0,.int .u8 0,.slice none 0 0]) rfl fun u WS S=>adr S 1 [] [(5,.i ((⟨s.w,s.h,e.color,a9,c9,l⟩:aF).key.chk.1))] fun S=>akf<|xk _ _<|Vp.rt ?_;refine Sx.wZ S 1 Tryz.results18 rfl (v := .agg (aF.cells .zero).toArray) (u := .i (⟨s.w,s.h,e.color,a9,c9,l⟩:aF).key.chk.1) ⟨.zero,_,rfl,jA (by rw[hap,if_neg (by simpa using wI)]),S.E⟩
  refine wp_skip<|rY _ _<|akg (fun _ uU=>?_);have U7:(⟨s.w,s.h,e.color,a9,c9,l⟩:aF).key.chk.1=0:=by simpa using wI
  refine adr S 1 [.mem 0 0] [(51,.agg (Sx.L [.i s.w,.i s.h]++e.color.cells++Sx.L [.slice a9 l.length c9]).toArray)] (fun S=>?_);have hl8:=(iq.below hl9 (Ext.trans' (Ext.rfl' (w:=u8)) (Ext.trans' KU E42)));have zb:=(S.bx 1).1;have E8:=S.E;obtain⟨um,hum⟩:∃z:World,z=u:=⟨_,rfl⟩;subst hum;refine ako S (some 52) (yx (K:=K) (s:=(⟨s.w,s.h,e.color,a9,c9,l⟩:aF)) ⟨h.1,h.2.1,hl8⟩ acT (by have:=VZ U7; omega)) ?_;rintro e u ⟨m,rfl,hmo,hms,hmw,Yi,hmb,E49⟩;have hmc:=hmo.cp;refine⟨_,rfl,E49,fun ac S=>?_⟩;refine akl S 1 (off:=0) (cs:=m.cells) rfl (fun u C50 S=>?_);have Ey:=dY.ch hmc C50 zb;refine adr S 1 [] [(5,.i 0)] fun S=>akf<|uU _ _<|Vp.rt ?_;have hmC:=Ey;refine Sx.wZ S 1 Tryz.results18 rfl (v := .agg (aF.cells m).toArray) (u := .i 0) ⟨m,_,rfl,⟨by rw[hap,if_pos U7,abb (s:=(⟨s.w,s.h,e.color,a9,c9,l⟩:aF)) hms hmw Yi hmb],fK.le hmC E8.size,Ql (w:=um) (s:=(⟨s.w,s.h,e.color,a9,c9,l⟩:aF)) ⟨h.1,h.2.1,hl8⟩ hmC hms hmw Yi,fun n hn=>⟨fits_all hms (Aw hl8) n hn,sU hms acT n hn⟩⟩,S.E⟩
 refine wp_skip<|lG _ _<|akg (fun _ Fa=>?_);have hwt:s.key.with' e.key (keys l)=(⟨s.w,s.h,s.bg,a9,c9,l⟩:aF).key:=by unfold aO.with'; rw[if_neg (show ¬(e.key.kind=5)from(show ¬(e.kind=5) by simpa using hc38))]; rfl
 have hap:=VY hv hno hnk hwt;refine adr S 1 [.mem 0 0] [(43,.agg (Sx.L [.i s.w,.i s.h]++s.bg.cells++Sx.L [.slice a9 l.length c9]).toArray)] fun S=>akn S 44 (yA (K:=K) (s:=(⟨s.w,s.h,s.bg,a9,c9,l⟩:aF)) ⟨h.1,h.2.1,(iq.below hl9 (Ext.trans' (Ext.rfl' (w:=u8)) Jr))⟩) fun ac u E53 S=>adr S 4 [] [(7,.i ((⟨s.w,s.h,s.bg,a9,c9,l⟩:aF).key.chk.1))] fun S=>akf<|Fa _ _<|wp_seq_k fun _ N9=>akg fun _ zT=>adr S 2 [] [(48,.bool (((⟨s.w,s.h,s.bg,a9,c9,l⟩:aF).key.chk.1) != 0))] fun S=>akf (zT _ _ ?_);refine aki S (fun afl=>?_) (fun afl=>?_)
 ·refine akg fun _ Fb=>adr S 2 [] [(49,.agg #[.i 0,.i 0,.int .u8 0,.int .u8 0,.int .u8 0,.int .u8 0,.slice none 0 0]),(50,.i ((⟨s.w,s.h,s.bg,a9,c9,l⟩:aF).key.chk.1))] fun S=>akl S 1 (off:=0) (cs:=[.i 0,.i 0,.int .u8 0,.int .u8 0,.int .u8 0,.int .u8 0,.slice none 0 0]) rfl fun u C58 S=>adr S 1 [] [(5,.i ((⟨s.w,s.h,s.bg,a9,c9,l⟩:aF).key.chk.1))] fun S=>akf<|Fb _ _<|Vp.rt ?_;refine Sx.wZ S 1 Tryz.results18 rfl (v := .agg (aF.cells .zero).toArray) (u := .i (⟨s.w,s.h,s.bg,a9,c9,l⟩:aF).key.chk.1) ⟨.zero,_,rfl,jA (by rw[hap,if_neg (by simpa using afl)]),S.E⟩
 refine wp_skip<|N9 _ _<|akg (fun _ aeQ=>?_);have U7:(⟨s.w,s.h,s.bg,a9,c9,l⟩:aF).key.chk.1=0:=by simpa using afl
 refine adr S 1 [.mem 0 0] [(51,.agg (Sx.L [.i s.w,.i s.h]++s.bg.cells++Sx.L [.slice a9 l.length c9]).toArray)] (fun S=>?_);have hl8:=(iq.below hl9 (Ext.trans' (Ext.rfl' (w:=u8)) (Ext.trans' Jr E53)));have zb:=(S.bx 1).1;have E8:=S.E;obtain⟨um,hum⟩:∃z:World,z=u:=⟨_,rfl⟩;subst hum;refine ako S (some 52) (yx (K:=K) (s:=(⟨s.w,s.h,s.bg,a9,c9,l⟩:aF)) ⟨h.1,h.2.1,hl8⟩ acT (by have:=VZ U7; omega)) ?_;rintro e u ⟨m,rfl,hmo,hms,hmw,Yi,hmb,E60⟩;have hmc:=hmo.cp;refine⟨_,rfl,E60,fun ac S=>?_⟩;refine akl S 1 (off:=0) (cs:=m.cells) rfl (fun u C61 S=>?_);have Ro:=dY.ch hmc C61 zb;refine adr S 1 [] [(5,.i 0)] fun S=>akf<|aeQ _ _<|Vp.rt ?_;have hmC:=Ro;refine Sx.wZ S 1 Tryz.results18 rfl (v := .agg (aF.cells m).toArray) (u := .i 0) ⟨m,_,rfl,⟨by rw[hap,if_pos U7,abb (s:=(⟨s.w,s.h,s.bg,a9,c9,l⟩:aF)) hms hmw Yi hmb],fK.le hmC E8.size,Ql (w:=um) (s:=(⟨s.w,s.h,s.bg,a9,c9,l⟩:aF)) ⟨h.1,h.2.1,hl8⟩ hmC hms hmw Yi,fun n hn=>⟨fits_all hms (Aw hl8) n hn,sU hms acT n hn⟩⟩,S.E⟩
end
section
open Go.RowKit
variable{α:Type}{K:Nat}
theorem acU{w:World}{s:aF}{n:Int}(h:s.few n=true)(ho:s.ok w):bP 20 w s∧(∀n∈s.ns,n.lim)∧(s.ns.length:Int)≤n:=Qk h ho.1 ho.2.1 ho.2.2
theorem acV{s t u:aF}{e:aX}{code why:Int}(h:(t.key,code)=dP s.key e.key)(h':(u.key,why)=dP s.key e.key):u.key=t.key∧why=code:=by
 have:=h'.trans h.symm;exact⟨congrArg Prod.fst this,congrArg Prod.snd this⟩
set_option maxRecDepth 100000 in
set_option maxHeartbeats 3200000 in
theorem Gz{w:World}{s:aF}{e:aX}(h:s.ok w)(he:e.ok w)(hg:jX w) :
  Calls Tryz.prog 3 #[s.v,e.v] w fun r w'=>r = .returned (.bool true)∧Ext w w':=by
 skip;refine akk Tryz.func3 Tryz.ntmps3 fun ac S=>akg fun _ aP=>akh S 2 s.cells fun ac u b2 E3 hb4 S=>akh S 3 e.cells fun ac u b5 E6 hb7 S=>adr S 1 [] [(4,.bool false)] fun S=>akf<|aP _ _<|wp_seq_k fun _ dM=>akg fun _ gX=>adr S 1 [.mem 1 0] [(9,s.v)] fun S=>akn S 10 (J8 ⟨(h.2.2.1.below S.E),fun n hn=>(h.2.2.2 n hn).below S.E⟩ 70) fun ac u zV S=>aku S 7 [.mem 0 4] [(_,_,(!(!(s.few 70))),.bool e.node.kT)] [(17,.bool ((!(s.few 70))||(!e.node.kT)))] ⟨fun u hC g=>yw (he.2.2.2.2.below (Ext.trans' S.E hC)),trivial⟩ fun ac u xA S=>akf (gX _ _ ?_);refine aki S (fun hc12=>?_) (fun hc12=>?_)
 ·refine akg fun _ gJ=>akn S 18 (jQ (hg.below S.E)) fun ac u Es S=>adr S 1 [] [(4,.bool true)] fun S=>akf<|gJ _ _<|akj S Tryz.results3 ?_;exact⟨rfl,S.E⟩
 refine wp_skip<|dM _ _<|akg (fun _ fP=>?_);have hc0:s.few 70=true∧e.node.kT=true:=by simpa using hc12
 have hs:=acU hc0.1 h;have heo:oZ 20 w e∧e.node.lim:=⟨⟨he.1,he.2.1,he.2.2.1,he.2.2.2.1,(pU hc0.2 he.2.2.2.2).1⟩,(pU hc0.2 he.2.2.2.2).2⟩;refine adr S 2 [.mem 1 0,.mem 0 0] [(20,s.v),(21,e.v)] fun S=>ako S (some 22) (xH (K:=20) (hs.1.below S.E) (hg.below S.E) (heo.1.below S.E) hs.2.1 heo.2) ?_;rintro e u ⟨t,code,rfl,har,Nv⟩;refine⟨_,rfl,Nv,fun ac S=>?_⟩;refine adr S 3 [] [(23,t.v),(24,.i code)] fun S=>akh S 5 [.i 0,.i 0,.int .u8 0,.int .u8 0,.int .u8 0,.int .u8 0,.slice none 0 0] fun ac u b17 DL ae9 S=>akl S 0 (off:=0) (cs:=t.cells) rfl (fun u C20 S=>?_);have zo:=akp DL C20 (by omega);refine adr S 1 [] [(6,.i code)] fun S=>akf<|fP _ _<|akg fun _ jv=>adr S 2 [.mem 2 0,.mem 1 0] [(26,s.v),(27,e.v)] fun S=>ako S (some 28) (Eh (K:=20) (hs.1.below S.E) (heo.1.below S.E) hs.2.1 heo.2) ?_;rintro e u ⟨v,why,rfl,hbr,Jt⟩;obtain⟨hkk,rfl⟩:=acV har.1 hbr.1;refine⟨_,rfl,Jt,fun ac S=>?_⟩;refine adr S 3 [] [(29,v.v),(30,.i why)] fun S=>akh S 7 [.i 0,.i 0,.int .u8 0,.int .u8 0,.int .u8 0,.int .u8 0,.slice none 0 0] fun ac u b24 SK aj3 S=>akl S 0 (off:=0) (cs:=v.cells) rfl (fun u YS S=>?_);have Y5:=akp (Ext.trans' zo (Ext.trans' Jt SK)) YS (by have:=(Ext.trans' zo Jt).size; omega);have Bf:=akp SK YS (by omega);refine adr S 1 [] [(8,.i why)] fun S=>akf<|jv _ _<|akg fun _ jM=>adr S 6 [.re 33 (.bool ((why)==why)) (.bool true),.mem 1 0,.mem 0 0] [(34,.bool true),(35,t.v),(36,v.v)] (hk:=⟨(congrArg Value.bool (by simp)),trivial⟩) fun S=>Sx.uH S (some 37) (oD (Ej (K:=20) (s:=t) (t:=v) ((bP.below har.2.2.1 Y5)) ((bP.below hbr.2.2.1 Bf))) (show Value.bool (t.key=v.key) = .bool true by rw[hkk]; simp)) ?_;rintro e u ⟨rfl,AY⟩;refine⟨_,rfl,AY,fun ac S=>?_⟩;refine adr S 2 [] [(39,.bool true)] fun S=>Sx.uH S (some 40) (jQ (hg.below S.E)) ?_;rintro e u ⟨rfl,E32⟩;refine⟨_,rfl,E32,fun ac S=>?_⟩;refine adr S 2 [] [(4,.bool true)] fun S=>akf<|jM _ _<|akj S Tryz.results3 ?_;exact⟨rfl,S.E⟩
end
end Go.Proofs.YtfmkkemfhjkajaaGreatDoor
section
namespace Go.Sx
open Go.Proofs.YtfmkkemfhjkajaaGreatDoor Go.RowKit Go.Rel
theorem Qn{P:Program}{ops ops':Array Oper}{Q:Exit→Act→World→Prop}{p q:Nat}{o:Oper}(ho':ops'[p]?=some o)
  (hK:∀(K:Act→World→Prop) a w,wpOp P ops (DN Q) p K a w→∃v,Yields P ops' o v a∧K (a.put o.dst v) w) (hs:Region.noSelect ops'=true) (hpq:p≠q)
  (hap:∀j oj,ops'[j]?=some oj→j≠p→j≠q→(∀e∈oj.after,Region.binds .any e=true→e.on≠p)→o.apart ops' oj=true)
  (hop:∀i K a w,wpOp P ops (DN Q) i K a w→wpOp P ops' (DN Q) i K a w)
  (hA:∀f (L:Array Bool) a w,L.getD p false=true→wpAny P .any ops (DN Q) f L a w→wpAny P .any ops' (DN Q) f L a w)
  (hR:∀L:Array Bool,L.getD q true=false→Region.ready .any ops L=Region.ready .any ops' L∧p∉Region.ready .any ops' L)
  (hP:∀L:Array Bool,L.getD q false=true→L.getD p true=false→p∈Region.ready .any ops L∧p∈Region.ready .any ops' L) :
  ∀(f:Nat) (L:Array Bool) (a:Act) (w:World),L.getD q true=false→L.getD p true=false→wpAny P .any ops (DN Q) f L a w→wpAny P .any ops' (DN Q) f L a w
 | 0,L,a,w,hq,hp,h=>⟨(hR L hq).1▸h.1,h.2⟩
 | f+1,L,a,w,hq,hp,h=>by
  refine⟨fun h0=>h.1 ((hR L hq).1.trans h0),fun i hi=>?_⟩
  have h2:=hop i _ a w (h.2 i ((hR L hq).1▸hi))
  have hip:i≠p:=fun e=>(hR L hq).2 (e▸hi)
  have hne:∀(j:Nat),j≠i→∀d,(L.setIfInBounds i true).getD j d=L.getD j d:=fun j hj d=>by
   simp[Array.getD_eq_getD_getElem?,Array.getElem?_setIfInBounds_ne (Ne.symm hj)]
  by_cases hiq:i=q
  ·subst hiq
   refine wpOp_mono (fun a' w' h'=>?_) h2
   have hlt:i<L.size:=by
    by_cases h:i<L.size
    ·exact h
    ·rw[Array.getD_eq_getD_getElem?,Array.getElem?_eq_none (by omega)]at hq; cases hq
   have hq':(L.setIfInBounds i true).getD i false=true:=by simp[Array.getD_eq_getD_getElem?,hlt]
   have hp':(L.setIfInBounds i true).getD p true=false:=by rw[hne p (Ne.symm hip)]; exact hp
   obtain⟨r1,r2⟩:=hP _ hq' hp'
   cases f with
   | zero=>rw[h'.1]at r1; cases r1
   | succ g =>
    obtain⟨v,hy,h3⟩:=hK _ a' w' (h'.2 p r1)
    have hltp:p<L.size:=by
     by_cases h:p<L.size
     ·exact h
     ·rw[Array.getD_eq_getD_getElem?,Array.getElem?_eq_none (by omega)]at hp; cases hp
    refine wpAny_first ho' (Region.noSelect_spec hs) (fun c a w h=>h.elim) g _ a' w' (fun j oj hj hjp hun hno=>hap j oj hj hjp (fun e=>?_) hno) r2 hy (hA _ _ _ _ (by simp[Array.getD_eq_getD_getElem?,hltp]) h3)
    subst e
    simp[Array.getD_eq_getD_getElem?,hlt]at hun
  ·refine wpOp_mono (fun a' w' h'=>Qn ho' hK hs hpq hap hop hA hR hP f _ a' w' ?_ ?_ h') h2
   ·rw[hne q (Ne.symm hiq)]; exact hq
   ·rw[hne p (Ne.symm hip)]; exact hp
def abe(p q t:Nat)(os:List Oper):Bool:=Region.noSelect os.toArray&&p != q&&p != t&&decide (q<os.length)&&(jD os.toArray p==[q])&&(jD os.toArray t).contains q &&
 (match os[p]? with | some o=>o.guard.isNone&&(match o.op with | .extract _ _=>true | _=>false)&&(List.range os.length).all (fun j=>j==p||j==q||(jD os.toArray j).contains p||(match os[j]? with | some oj=>o.apart os.toArray oj | none=>true)) | none=>false)
theorem vM{p t:Nat}{os:List Oper}{j q:Nat}:q∈jD (qN [p] t os).toArray j↔q∈jD os.toArray j∨(j=t∧q=p∧j<os.length):=by
 unfold jD;rw[List.getElem?_toArray,List.getElem?_toArray,vg];by_cases h:j=t
 ·subst h;rw[if_pos rfl];cases ho:os[j]? with
  | none=>have:=List.getElem?_eq_none_iff.1 ho; simp; omega
  | some o =>
   have hl:=(List.getElem?_eq_some_iff.1 ho).1;simp only[Option.map_some,Array.toList_append,List.filterMap_append,List.mem_append,List.map_cons,List.map_nil];refine or_congr Iff.rfl ?_;simp[Region.binds,hl,eq_comm]
 rw[if_neg h]; simp[h]
theorem acW{L:Array Bool}{q:Nat}(h:L.getD q true=false):L.getD q false=false:=by
 by_cases hl:q<L.size
 ·rw[←sF hl true false]; exact h
 rw[Array.getD_eq_getD_getElem?,Array.getElem?_eq_none (by omega)]at h; cases h
theorem Yn{ops ops':Array Oper}{L:Array Bool}(hsz:ops.size=ops'.size)(h:∀j,j∈Region.ready .any ops L↔j∈Region.ready .any ops' L):Region.ready .any ops L=Region.ready .any ops' L:=by
 unfold Region.ready at *;rw[hsz]at *;refine List.filter_congr fun x hx=>?_;have:=h x;simp only[List.mem_filter,hx,true_and]at this;exact Bool.eq_iff_iff.2 this
theorem Qo{P:Program}{tt:Value}{ix:Nat}:(∃v,∀w,(Instr.extract tt ix).run P w = .ok v w)∨∀w,∃x,(Instr.extract tt ix).run P w = .halt x w:=by
 unfold Instr.extract;split
 ·split
  ·exact .inl ⟨_,fun w=>rfl⟩
  exact .inr fun w=>⟨_,rfl⟩
 exact .inr fun w=>⟨_,rfl⟩
theorem delay{P:Program}{Q:Exit→Act→World→Prop}{a:Act}{w:World}{os:List Oper}{id:Nat}(p q t:Nat)(h:wpAny P .any (qN [p] t os).toArray (DN Q) (qN [p] t os).toArray.size (Array.replicate (qN [p] t os).toArray.size false) a { w with drawn:=w.drawn+1 })
  (hb:abe p q t os=true:=by kernel_rfl) (hmo:P.follows .mixedOrders=true:=by kernel_rfl):(Code.region id os.toArray true).wp P Q a w:=by
 rw[show(qN [p] t os).toArray.size=os.length by unfold qN; simp]at h;unfold abe at hb;simp only[Bool.and_eq_true,bne_iff_ne,ne_eq,decide_eq_true_eq,beq_iff_eq]at hb;obtain⟨⟨⟨⟨⟨⟨hs,hpq⟩,hpt⟩,hql⟩,hbp⟩,hbt⟩,hm⟩:=hb;have hbt:q∈jD os.toArray t:=by simpa using hbt
 split at hm
 ·rename_i o ho;simp only[Bool.and_eq_true,List.all_eq_true,List.mem_range,Bool.or_eq_true,beq_iff_eq]at hm;obtain⟨⟨hg,hx⟩,hap⟩:=hm;have hg:o.guard=none:=by simpa using hg
  obtain⟨tt,ix,hop⟩:∃tt ix,o.op = .extract tt ix:=by split at hx; exact⟨_,_,by assumption⟩; cases hx
  have hpl:=(List.getElem?_eq_some_iff.1 ho).1;have ho':os.toArray[p]?=some o:=by simpa using ho
  have hop2:(qN [p] t os).toArray[p]?=some o:=by rw[List.getElem?_toArray,vg,if_neg hpt]; exact ho
  have hal:=Aa [p] t os;refine wp_region_any hmo (yL _ _ _ _ ?_);have hsz:(qN [p] t os).toArray.size=os.toArray.size:=hal.1;have hrep:∀j,j<os.length→∀d,(Array.replicate os.length false).getD j d=false:=fun j hj d=>by simp[Array.getD_eq_getD_getElem?,hj]
  have key:=Qn (P:=P) (Q:=Q) (ops:=(qN [p] t os).toArray) (ops':=os.toArray) (p:=p) (q:=q) ho' (fun K a w h=>?_) hs hpq (fun j oj hj h1 h2 h3=>?_) (fun i K a w h=>hal.wpOp (fun _ _ h=>h) h) (fun f L a w hL h=>?_) (fun L hL=>?_) (fun L hL hL2=>?_) os.length (Array.replicate os.length false) a { w with drawn:=w.drawn+1 } (hrep q hql _) (hrep p hpl _) h
  ·simpa using key
  ·unfold wpOp at h;rw[hop2]at h;simp only at h;rw[if_pos (by simp[Region.wanted,hg])]at h;rcases h with h | ⟨_,h⟩
   ·have he:∀w,(execOp a.eval o).run P w=match (Instr.extract (a.eval tt) ix).run P w with | .ok v w => .ok (.value v) w | .halt x w => .halt x w:=fun w=>by unfold execOp; simp only[hop]; generalize Instr.extract (a.eval tt) ix=m; simp[go_sem]; cases Sem.run P m w<;>rfl
    rcases Qo (P:=P) (tt:=a.eval tt) (ix:=ix)with ⟨v,hv⟩ | hb
    ·have hrun:∀w,(execOp a.eval o).run P w = .ok (.value v) w:=fun w=>by rw[he,hv]
     exact⟨v,.inl ⟨by simp[Region.wanted,hg],hrun⟩,by unfold Oper.wp at h; rw[hrun w]at h; exact h⟩
    obtain⟨x,hx⟩:=hb w;unfold Oper.wp at h;rw[he,hx]at h;cases x<;>simp only[Oper.upon]at h;exact h.elim
   exact(sD h).elim
  ·have hj':os[j]?=some oj:=by simpa using hj
   have:=hap j (List.getElem?_eq_some_iff.1 hj').1;rw[hj']at this;rcases this with ((h4 | h4) | h4) | h4
   ·exact absurd h4 h1
   ·exact absurd h4 h2
   ·obtain⟨e,he,hbe,h5⟩:=(mP hj).1 (by simpa using h4);exact absurd h5 (h3 e he hbe)
   exact h4
  ·refine DR (F:=[p]) hal (fun i o1 o2 h1 h2 e he hbe=>?_) (fun i o1 o2 h1 h2 e he hbe=>?_) f L a w (fun i hi=>by rw[List.mem_singleton.1 hi]; exact hL) h
   ·rcases vM.1 ((mP h1).2 ⟨e,he,hbe,rfl⟩)with h3 | h3
    ·exact .inr ((mP h2).1 h3)
    exact .inl (by simp[h3.2.1])
   exact(mP h1).1 (vM.2 (.inl ((mP h2).2 ⟨e,he,hbe,rfl⟩)))
  ·have hq:=acW hL;have hnp:p∉Region.ready .any os.toArray L:=fun h=>by
    have:=(jr.1 h).2.2 q (by rw[hbp]; simp);rw[hq]at this; cases this
   refine⟨Yn hsz fun j=>?_,hnp⟩;rw[jr,jr,hsz];refine and_congr_right fun _=>and_congr_right fun _=>⟨fun g r hr=>g r (vM.2 (.inl hr)),fun g r hr=>?_⟩;rcases vM.1 hr with hr | ⟨rfl,-,-⟩
   ·exact g r hr
   have:=g q hbt;rw[hq]at this; cases this
  refine⟨jr.2 ⟨by rw[hsz]; simpa using hpl,hL2,fun r hr=>?_⟩,jr.2 ⟨by simpa using hpl,hL2,fun r hr=>?_⟩⟩
  ·rcases vM.1 hr with hr | ⟨h1,-,-⟩
   ·rw[hbp]at hr; rw[List.mem_singleton.1 hr]; exact hL
   exact absurd h1 hpt
  rw[hbp]at hr; rw[List.mem_singleton.1 hr]; exact hL
 cases hm
end Go.Sx
end
