/- Package scene: removals and backgrounds alone. The laws' -/
import Derived.Test.YtodpgjjgaddkeaaGreatDoorPk32
import Derived.WideShapes
set_option maxHeartbeats 3200000
set_option maxRecDepth 100000
set_option linter.unusedVariables false
set_option linter.unusedSimpArgs false
namespace Go.Proofs.YtodpgjjgaddkeaaGreatDoor
open _root_.Go.Proofs.Tryz
section
open Go.RowKit
variable{α:Type}{K:Nat}
theorem MO{s:bD}{e:bZ}(hS:e.kind=2∨e.kind=5):N9 s e=fB s e:=by unfold N9 fB; rw[show mF s.ns e=mD s.ns e by unfold mF; rw[azG (show ¬e.kind=3 by omega)]]; try rfl
theorem afr{s:aJ}{e:bn}{code:Int}{m t:aJ}(hS:e.kind=2∨e.kind=5)(hv:s.key.valid=true)(hn:e.key.named=true)(hk:keys m.ns=keys s.ns)(hr:ae5 m e code t)(hc:code≠0):fB s.key e.key=(.zero,code):=by
 rw[←MO (show e.key.kind=2∨e.key.kind=5 from hS)];unfold N9;rw[azG (by simp[hv]),azG (by simp[hn])];have h1:=hr.1;rw[hk]at h1;rw[show s.key.ns=keys s.ns from rfl];cases hp:mF (keys s.ns) e.key with
 | error n=>rw[hp]at h1; rw[show code=n from h1]
 | ok l=>rw[hp]at h1; exact absurd h1.1 hc
theorem Zc{s:aJ}{e:bn}{m t:aJ}(hS:e.kind=2∨e.kind=5)(hv:s.key.valid=true)(hn:e.key.named=true)(hk:keys m.ns=keys s.ns)(h3:m.w=s.w∧m.h=s.h∧m.bg=s.bg)(hr:ae5 m e 0 t)(hne:∀n,mF (keys s.ns) e.key = .error n→n≠0):fB s.key e.key=if t.key.chk.1=0 then (t.key,0)else (.zero,t.key.chk.1):=by
 rw[←MO (show e.key.kind=2∨e.key.kind=5 from hS)];unfold N9;rw[azG (by simp[hv]),azG (by simp[hn])];have h1:=hr.1;rw[hk]at h1;rw[show s.key.ns=keys s.ns from rfl];cases hp:mF (keys s.ns) e.key with
 | error n=>rw[hp]at h1; exact absurd h1.symm (hne n hp)
 | ok l =>
  rw[hp]at h1;have ht:s.key.with' e.key l=t.key:=by
   unfold bD.with' aJ.key;rw[hr.2.1,hr.2.2,h1.2.2,←h1.2.1,h3.1,h3.2.1,h3.2.2];rfl
  simp only[ht]
theorem Ud{w0 w:World}{b:Nat}{s:aJ}{e:bn}(hE:Ext w0 w)(hx:Bx w b s.cells.toArray)(hb:w0.heap.size≤b)(ho:s.own w0.heap.size w)(hob:s.s.ownBlock≠some b)(hnb:Sx.On (fun i=>w0.heap.size≤i∧i≠b∧s.s.ownBlock≠some i) (fun W=>∀n∈s.ns,n.pO w0.heap.size W) w)(hf:∀n∈s.ns,n.zX K)(he:iF K w0 e)(hel:e.node.lim)(hS:e.kind=2∨e.kind=5)(hn:s.ns.length≤1000) :
  Calls prog 99 #[.q b 0,e.v] w fun r w'=>∃(code:Int) (t:aJ),r = .returned (.i code)∧Ext w0 w'∧Bx w' b t.cells.toArray∧fU w0.heap.size t.s t.ns w'∧(∀n∈t.ns,n.zX K)∧ae5 s e code t:=by
 skip;refine azE func99 ntmps99 hE hx hb (fun S=>?_);obtain⟨a,cap,es⟩:∃a c,s.s = .slice a s.ns.length c:=⟨_,_,rfl⟩;have hor:=ho.row;rw[es]at hor hob hnb;have R:=ahE S hor hob;have hnd:=afa (A:=s.cells) (m:=s.ns.length) (xs:=s.ns.flatMap aj.cells) hnb;refine azh S e.cells (fun u b2 E3 hb4 S=>?_);obtain⟨R,Y6⟩:=R.bP S (aAM E3 hb4);have hrow:=(aAj (Sx.kQ (f:=aj.cells) (L:=s.ns) (fun _=>rfl) (R.own _ azV) rfl rfl));refine azs S 7 [.mem 1 6,.re 15 s.s (.slice a s.ns.length cap),.mem 0 1] [(_,_,true,.i (wM (keys s.ns) e.id))] [(18,.i (wM (keys s.ns) e.id))] ⟨fun u hC g=>VW (id:=e.id) (hrow.below hC),trivial⟩ (hk:=⟨es,trivial⟩) fun u E7 S=>adr S 5 [] [.mem 0 0] fun S=>azb S ((e.kind)==1) (fun gU S=>?_) (fun gU S=>?_)
 ·exact absurd hS (by simp only[azU]at gU; omega)
 refine azb S ((e.kind)==2) (fun pR S=>?_) (fun pR S=>?_)
 ·refine azb S ((e.kind)==2) (fun yD S=>?_) (fun yD S=>?_)
  ·refine azb S (decide ((wM (keys s.ns) e.id)<0)) (fun hc18 S=>?_) (fun hc18 S=>?_)
   ·have hfk:=((Ez s.ns e.id).resolve_right (fun⟨i,h,_⟩=>by have:=azZ hc18; omega)).2;obtain⟨R,Y20⟩:=R.bP S (az7 E7);refine ay9 S (.i 8) (fun S=>?_);exact⟨8,s,rfl,S.E,S.bx 1,(es▸aAd (Sx.jV (fun _=>rfl) (R.own _ azV) rfl rfl) (Sx.Ow.dep (aA2 hnd (az2 Y6 Y20)))),hf,⟨by rw[show mF (keys s.ns) e.key = .error 8 by unfold mF mD; rw[azG (show ¬e.key.kind=3 from fun h=>by have:=(show(e.key.kind=2)from by simpa[bn.key]using pR); omega),azG (show ¬(e.key.kind=1)from by simpa[bn.key]using gU),azI (show(e.key.kind=2)from by simpa[bn.key]using pR),show nC (keys s.ns) e.key.id=none from hfk]],rfl,rfl⟩⟩
   obtain⟨i,hfi,hfk,hi⟩:=(Ez s.ns e.id).resolve_left (fun h=>by have:=az4 hc18; omega);have hek:=agI (l:=keys s.ns) (i:=i) (by simpa using hi);rw[aA1]at hek;obtain⟨R,Y22⟩:=R.bP S (az7 E7);obtain⟨gb,rfl,hgn⟩:=ae7 R (by omega);have hrw:=alO R rfl;have avg:=alN (aA2 hnd (az2 Y6 Y22));have R:=Sx.Rw.pop R;have hrow:=(aAj hrw).1;have q23:=S.E.size;have q24:=R.lt;obtain⟨e9,he9⟩:∃z,z=yE (keys s.ns) i:=⟨_,rfl⟩;rw[←he9]at hek;have hro:=hrw;refine Sx.zd2 S Tryz.f99 11 (fun S iz=>?_);refine Sx.Eh S 16 [(67,fun v w1=>∃v1,v = .tuple #[v1,.slice (some ⟨gb,0+i*47,none⟩) (e9-i) (e9-i)]∧Sx.On (fun j=>(w0.heap.size≤j∧j∉Sx.Ob [(b2,e.cells),(b,s.cells)] [])∨u.heap.size≤j) (Sx.nZ 38 47 aj.cells w0.heap.size v1 (s.ns.take i++s.ns.drop e9)) w1),(55,fun v w1=>∃v1,v = .tuple #[v1,.slice (some ⟨gb,0+i*47,none⟩) (e9-i) (e9-i)]∧Sx.On (fun j=>(w0.heap.size≤j∧j∉Sx.Ob [(b2,e.cells),(b,s.cells)] [])∨u.heap.size≤j) (Sx.nZ 38 47 aj.cells w0.heap.size v1 (s.ns.take i++s.ns.drop e9)) w1),(68,fun v w1=>Sx.On (fun j=>(w0.heap.size≤j∧j∉Sx.Ob [(b2,e.cells),(b,s.cells)] [])∨u.heap.size≤j) (Sx.nZ 38 47 aj.cells w0.heap.size v (s.ns.take i++s.ns.drop e9)) w1),(69,fun v w1=>v = .slice (some ⟨gb,0+i*47,none⟩) (e9-i) (e9-i)),(6,fun v w1=>Sx.On (fun j=>(w0.heap.size≤j∧j∉Sx.Ob [(b2,e.cells),(b,s.cells)] [])∨u.heap.size≤j) (Sx.nZ 38 47 aj.cells w0.heap.size v (s.ns.take i++s.ns.drop e9)) w1)] (fun r=>[.mem 1 6,.re 59 s.s (.slice (some ⟨gb,0,none⟩) s.ns.length cap),.mem 1 6,.re 64 s.s (.slice (some ⟨gb,0,none⟩) s.ns.length cap),.hand 55 [],.hand 68 [],.hand 69 [],.hand 6 []]) (fun x=>[.i e9,x 67,x 55,x 68,x 69,x 6]) (fun x=>[(_,_,true,.i e9,66),(_,_,true,x 67,67)]) [[],[]] (fun x=>[(6,x 6),(69,x 69)]) ⟨fun _ _ _ k h=>by obtain⟨v1,e,h⟩:=h; exact⟨v1,e,h.ext k⟩,fun _ _ _ k h=>by obtain⟨v1,e,h⟩:=h; exact⟨v1,e,h.ext k⟩,fun _ _ _ k h=>h.ext k,fun _ _ _ _ h=>h,fun _ _ _ k h=>h.ext k,trivial⟩ (fun x=>⟨by intro u hC g F; exact(aaG (hrow.below hC) hi hfi he9).mono fun e w2 h=>⟨_,h.1,rfl,h.2⟩,by intro u hC g F; exact(RV (hrow.below hC) (f:=i) (t:=e9) (by omega) (by omega) (by omega) hfi).mono fun e w2 h=>by obtain⟨v1,rfl,hx,hb⟩:=h; exact⟨_,rfl,⟨v1,by rw[ae8 (show e9≠i by omega)],(hx w0.heap.size _ (Ext.trans' S.E hC).size (az1 hro hC)).mono fun j hj=>hj.imp_right (az3 hC.size)⟩,hb⟩,trivial⟩) (fun ac u x Fp F S=>?_) (hk:=fun r=>⟨es,es,trivial,trivial,trivial,trivial,trivial⟩) (hl:=[(12,[67]),(13,[55]),(14,[55]),(15,[68])]) (hH:=fun x r=>⟨fun o ho ρ u hs hE hρ hV F=>by obtain⟨F67,-⟩:=F; obtain⟨v1,e1,h1⟩:=F67; exact Sx.kX ho hs [(67,.tuple #[v1,.slice (some ⟨gb,0+i*47,none⟩) (e9-i) (e9-i)])] (azM ((hρ 67 (by decide) rfl).trans e1)) (.tuple #[v1,.slice (some ⟨gb,0+i*47,none⟩) (e9-i) (e9-i)]) (Sx.oh ho rfl rfl Ext.rfl' ⟨v1,rfl,h1⟩),fun o ho ρ u hs hE hρ hV F=>by obtain⟨F55,-⟩:=F; obtain⟨v1,e1,h1⟩:=F55; exact Sx.kX ho hs [(55,.tuple #[v1,.slice (some ⟨gb,0+i*47,none⟩) (e9-i) (e9-i)])] (azM ((hρ 55 (by decide) rfl).trans e1)) (v1) (Sx.oh ho rfl rfl Ext.rfl' h1),fun o ho ρ u hs hE hρ hV F=>by obtain⟨F55,-⟩:=F; obtain⟨v1,e1,h1⟩:=F55; exact Sx.kX ho hs [(55,.tuple #[v1,.slice (some ⟨gb,0+i*47,none⟩) (e9-i) (e9-i)])] (azM ((hρ 55 (by decide) rfl).trans e1)) (.slice (some ⟨gb,0+i*47,none⟩) (e9-i) (e9-i)) (Sx.oh ho rfl rfl Ext.rfl' rfl),fun o ho ρ u hs hE hρ hV F=>by obtain⟨F68,-⟩:=F; exact Sx.kX ho hs [(68,x 68)] (azM (hρ 68 (by decide) rfl)) (x 68) (Sx.oh ho rfl rfl Ext.rfl' F68),trivial⟩);refine Sx.Z8 S (fun S=>?_);obtain⟨F67,F55,F68,F69,F6,-⟩:=F;clear F67;clear F55;clear F68;rw[F69]at S;try rw[F69]
   obtain⟨R,Y26⟩:=R.bP S (az7 Fp);have hcut:Sx.Ow w0.heap.size (Sx.Ob [(b2,e.cells),(b,s.cells)] []) (Sx.nZ 38 47 aj.cells w0.heap.size (x 6) (s.ns.take i++s.ns.drop e9)) u:=F6.mono fun j hj=>hj.elim id fun h=>⟨az3 q23 h,fun hm=>by have:=q24 j hm; omega⟩;obtain⟨a7,c7,e7⟩:=(aAj hcut).1.shape;rw[e7]at S hcut;try rw[e7]
   refine adr S 4 [] [.mem 0 0] fun S=>azb S ((e.kind)==2) (fun hc29 S=>?_) (fun hc29 S=>?_)
   ·refine Sx.RX S 1 (off:=6) (v := .slice a7 ((s.ns.take i++s.ns.drop e9).length) c7) rfl (fun u C31 S=>?_);obtain⟨R,Y33⟩:=R.bP S (Sx.Stp.Oc C31);refine ay9 S (.i 0) (fun S=>?_);exact⟨0,⟨s.w,s.h,s.bg,a7,c7,s.ns.take i++s.ns.drop e9⟩,rfl,S.E,S.bx 1,aAd (Sx.Ow.dep (aA2 hcut Y33)) (aAF (Sx.Ow.dep (aA2 avg (az2 Y26 Y33))) fun _ h=>Y4 h i e9),Y4 hf i e9,⟨by rw[show mF (keys s.ns) e.key = .ok (Ry (keys s.ns) i e9) by unfold mF mD; rw[azG (show ¬e.key.kind=3 from fun h=>by have:=(show(e.key.kind=2)from by simpa[bn.key]using pR); omega),azG (show ¬(e.key.kind=1)from by simpa[bn.key]using gU),azI (show(e.key.kind=2)from by simpa[bn.key]using pR),show nC (keys s.ns) e.key.id=some i from hfk]; rw[he9]]; exact⟨rfl,ae9 ..,by rw[azG (fun h=>by have:=(show(e.key.kind=2)from by simpa[bn.key]using pR); simp only[bn.key]at this; omega)]⟩,rfl,rfl⟩⟩
   rw[pR]at hc29; cases hc29
  rw[pR]at yD; cases yD
 refine azb S ((e.kind)==3) (fun hc34 S=>?_) (fun hc34 S=>?_)
 ·exact absurd hS (by simp only[azU]at hc34; omega)
 refine azb S ((e.kind)==4) (fun qA S=>?_) (fun qA S=>?_)
 ·exact absurd hS (by simp only[azU]at qA; omega)
 refine azb S ((e.kind)==5) (fun hc38 S=>?_) (fun hc38 S=>?_)
 ·refine adr S 5 [] [.mem 0 51] fun S=>azm S 1 (off:=2) (cs:=e.color.cells) rfl (fun u C39 S=>?_);obtain⟨R,Y41⟩:=R.bP S (az2 (az7 E7) (Sx.Stp.Oc C39));refine ay9 S (.i 0) (fun S=>?_);exact⟨0,⟨s.w,s.h,e.color,s.nsa,s.nsc,s.ns⟩,rfl,S.E,S.bx 1,(es▸aAd (Sx.jV (fun _=>rfl) (R.own _ azV) rfl rfl) (Sx.Ow.dep (aA2 hnd (az2 Y6 Y41))):fU _ s.s _ _),hf,⟨by rw[show mF (keys s.ns) e.key = .ok (keys s.ns) by unfold mF mD; rw[azG (show ¬(e.key.kind=3)from by simpa[bn.key]using hc34),azG (show ¬(e.key.kind=1)from by simpa[bn.key]using gU),azG (show ¬(e.key.kind=2)from by simpa[bn.key]using pR),azG (show ¬(e.key.kind=3)from by simpa[bn.key]using hc34),azG (show ¬(e.key.kind=4)from by simpa[bn.key]using qA)]]; exact⟨rfl,rfl,by rw[azI (by simpa using hc38)]⟩,rfl,rfl⟩⟩
 exact absurd hS (by simp only[az8]at pR hc38; omega)
theorem PK{w:World}{s:aJ}{e:bn}(h:dJ K w s)(hg:dw w)(he:iF K w e)(hlim:∀n∈s.ns,n.lim)(hel:e.node.lim)(hS:e.kind=2∨e.kind=5) :
  Calls prog 62 #[s.v,e.v] w fun r w'=>∃(t:aJ) (code:Int),r = .returned (.tuple #[t.v,.i code])∧Xx w.heap.size K s e code t w'∧Ext w w':=by
 skip;refine aze func62 ntmps62 fun S=>azd S fun u b2 E3 hb4 S=>azd S fun u b5 E6 hb7 S=>azd S fun u b8 E9 zo S=>adr S 2 [] [.mem 2 0] fun S=>azp S (wP (h.below S.E) (hg.below S.E)) fun u EM S=>azb S (!s.key.valid) (fun pR S=>?_) (fun pR S=>?_)
 ·refine azf S 0 rfl fun u C16 S=>Sx.Jc S 0 rfl (v := .agg (aJ.cells .zero).toArray) (u := .i 18) (fun S=>⟨.zero,_,rfl,rO (by unfold fB; rw[azI (by simpa using pR)]),S.E⟩)
 refine adr S 1 [] [.mem 1 0] fun S=>azp S (abu (he.below S.E)) fun u KP S=>azb S (!e.key.named) (fun qm S=>?_) (fun qm S=>?_)
 ·refine azf S 0 rfl fun u C22 S=>Sx.Jc S 0 rfl (v := .agg (aJ.cells .zero).toArray) (u := .i 2) (fun S=>⟨.zero,_,rfl,rO (by unfold fB; rw[azG (by have:=pR; simp at this; simp[this]),azI (by simpa using qm)]),S.E⟩)
 have hE0:=S.E;have afs:=(S.bx 0).1;have ap2:=(S.bx 1).1;have ajh:=(S.bx 2).1;obtain⟨wc,hwc⟩:∃z:World,z=u:=⟨_,rfl⟩;rw[←hwc]at hE0 afs ap2 ajh;have hcw:Ext wc u:=hwc▸Ext.rfl';have hv:s.key.valid=true:=by simpa using pR
 have hno:e.key.named=true:=by simpa using qm
 have hsl:s.ns.length≤64:=by have:=(bD.nD.1 hv).2.1; rwa [show s.key.ns.length=s.ns.length from aA1 ..]at this
 have hwl:=(hcw).size;refine adr S 1 [] [.mem 2 0] fun S=>azo S (rG (h.below S.E) hlim (by omega)) ?_;rintro e u ⟨m,rfl,hmo,hms,hmw,hmh,hmb,Aw⟩;refine⟨_,rfl,Aw,fun S=>?_⟩;have hwz:=((Ext.trans' hcw Aw)).size;refine azd S (fun u b25 Ux ND S=>?_);have hge:wc.heap.size≤b25:=by omega
 refine azf S 0 rfl (fun u P6 S=>?_);have Ar:=azg (Ext.trans' Aw Ux) P6 (by have:=Aw.size; omega);have hmw:=And.intro hmw (And.intro hmh hmb);have al2:=(own_base hwl (abv hmo Ux P6 (.inr (aCb ND.symm))));have hml:m.ns.length=s.ns.length:=by have:=azT List.length hms; simpa using this
 refine adr S 1 [] [.mem 2 0] fun S=>azl S fun S=>Sx.KZ S (some 19) hE0 ((Ext.trans' hcw Ar)) (fun p hp=>by rcases azS.1 hp with rfl | hp; exact afs; rcases azS.1 hp with rfl | hp; exact ap2; rcases azS.1 hp with rfl | hp; exact ajh; cases hp) (Ud (K:=K) (w0:=wc) ((Ext.trans' hcw Ar)) (S.lu 0) hge al2.1 al2.2.1 al2.2.2 (fun n hn=>⟨fits_all hms (fun n hn=>(h.2.2.2 n hn).2) n hn,zW hms hlim n hn⟩) (he.below hE0) hel hS (by omega)) ?_;rintro r u ⟨code,t,rfl,hE2,hX,hcp,hft,hres⟩;refine⟨_,t.cells,rfl,hE2,hX,fun ac S=>?_⟩;refine Sx.UG S (fun S=>?_);have htw:I64 t.w∧I64 t.h:=by rw[hres.2.1,hres.2.2,hmw.1,hmw.2.1]; exact⟨h.1,h.2.1⟩
 have hkm:keys m.ns=keys s.ns:=zV hms;refine azb S ((code)==0) (fun TR S=>?_) (fun TR S=>?_)
 ·refine adr S 1 [] [.mem 0 0] fun S=>azp S (Ee (K:=K) (s:=t) ⟨htw.1,htw.2,fU.ok (hcp) fun n hn=>(hft n hn).1⟩ (hg.below S.E)) fun u E34 S=>azb S ((t.key.chk.1) != 0) (fun EO S=>?_) (fun EO S=>?_)
  ·refine azf S 1 rfl (fun u C39 S=>?_);have S:=S.fl;have GX:=aU.ch (az1 hcp E34) C39 afs;have hc0:code=0:=by simpa using TR
   have hap:=Zc hS hv hno hkm hmw (hc0▸hres) fun n h=>Jf h;refine Sx.Jc S 1 rfl (v := .agg (aJ.cells .zero).toArray) (u := .i t.key.chk.1) (fun S=>⟨.zero,_,rfl,rO (by rw[hap,azG (by simpa using EO)]),S.E⟩)
  refine adr S 1 [] [.mem 0 0] fun S=>azf S 1 rfl (fun u C42 S=>?_);have wC:=aU.ch (az1 hcp E34) C42 afs;have hc0:code=0:=by simpa using TR
  have hap:=Zc hS hv hno hkm hmw (hc0▸hres) fun n h=>Jf h;refine Sx.Jc S 1 rfl (v := .agg (aJ.cells t).toArray) (u := .i 0) (fun S=>⟨t,_,rfl,⟨by rw[hap,azI (by simpa using EO)],fU.le (wC) hE0.size,⟨htw.1,htw.2,fU.ok (wC) fun n hn=>(hft n hn).1⟩,hft⟩,S.E⟩)
 have hne:((code) != 0)=true:=by have:=TR; simpa using this
 refine azb S ((code) != 0) (fun VI S=>?_) (fun VI S=>?_)
 ·refine azf S 1 rfl (fun u C48 S=>?_);have RJ:=aU.ch hcp C48 afs;refine Sx.Jc S 1 rfl (v := .agg (aJ.cells .zero).toArray) (u := .i code) (fun S=>⟨.zero,_,rfl,rO (afr hS hv hno hkm hres (by simpa using hne)),S.E⟩)
 rw[hne]at VI; cases VI
end
section
open Go.RowKit En
variable{α:Type}{K:Nat}
def Ak:aQ:=⟨1,1,0,qI,[],0,255,1,false,false,[],0,[],aS.bare.key,[],dB.bare.key,0⟩
def xq(w:World)(m:aJ):Prop:=dJ 20 w m∧(∀n∈m.ns,n.lim)∧m.key=sK Ak .none∧Pg Ak
theorem xq.below{w w':World}{m:aJ}(h:xq w m)(hE:Ext w w'):xq w' m:=⟨h.1.below hE,h.2⟩
theorem ahM{w:World}{t:bG}{b:Nat}(ht:TI w t)(hx:Bx w b (vw 1 t).cells.toArray):xq w ⟨2,1,.none,some ⟨b,0,none⟩,1,[vw 1 t]⟩:=by
 have hd:Ub w 1 1 (vw 1 t) := .inl ⟨rfl,t,ht,rfl⟩;have hk:(vw 1 t).key=Ak:=by unfold aj.key Ak vw; rw[ht.2.q NM]; rfl
 have hc:(vw 1 t).checkN=0:=by have:=hd.check; simpa using this
 refine⟨⟨(show I64 2 by decide),(show I64 1 by decide),Sx.FI (f:=aj.cells) [vw 1 t] (fun _=>rfl) (by simpa using hx) (by show 1≤maxLen; decide),fun n hn=>by rw[aAb.1 hn]; exact hd.ok (by decide) (by decide) (by decide)⟩,fun n hn=>?_,by unfold aJ.key sK; rw[←hk]; rfl,⟨by rw[←hk,kZ]; exact hc,rfl,rfl,rfl⟩⟩;rw[aAb.1 hn];exact⟨(ht.fit (azJ 1)).up (by decide),azQ _,azQ _,azQ _,(fun p hp=>by cases hp),azQ _,azQ _,(fun p hp=>by cases hp),azQ _⟩
def EdS(k:bZ):Prop:=k.kind=2∨k.kind=5
theorem nH:ApC EdS:=fun h hg he hl hel hS=>PK h hg he hl hel hS
theorem Ue{f:FuncId}{args:Array Value}{w:World}{v v':Value}(h:Calls prog f args w fun e w'=>e = .returned v∧Ext w w')(hv:v=v'):Calls prog f args w fun e w'=>e = .returned v'∧Ext w w':=hv▸h
theorem aft{w:World}{b a n:Nat}{H:HD}{h:HK}(hx:Bx w b H.cells.toArray)(hk:H.key=h)(ha:h.k=a)(hn:h.es.length=n) :
  Calls prog 9 #[.q b 0] w fun e w'=>e = .returned (.tuple #[.i a,.i n])∧Ext w w':=by
 subst hk ha hn;exact Ue (ae3 (sv := .slice H.sa H.ss.length H.sc) (ea:=H.ea) (ec:=H.ec) hx) (by simp[HD.key])
theorem al3{w:World}{m:aJ}{v:Value}(h:∃t:aJ,v=t.v∧xq w t)(hm:dJ 20 w m)(hk:m.key=sK Ak .none) :
  Calls prog 16 #[m.v,v] w fun e w'=>e = .returned (.bool true)∧Ext w w':=by
 obtain⟨t,rfl,ht⟩:=h;exact Ue (Uc hm ht.1) (by rw[hk,ht.2.2.1]; simp)
theorem DN(w:World){k i:Int}{c:bC}(hk:I64 k)(hi:I64 i)(hK:1≤K∧K≤10000):iF K w ⟨k,i,0,0,bK,c⟩:=⟨hk,hi,(show I64 0 by decide),(show I64 0 by decide),gJ w hK.1 hK.2⟩
theorem uj:bK.lim:=⟨(gJ (K:=20) default (by decide) (by decide)).2.1.up (by decide),azQ _,azQ _,azQ _,(fun p hp=>by cases hp),azQ _,azQ _,(fun p hp=>by cases hp),azQ _⟩
theorem HK.XA{h:HK}{e:bZ}{t:bD}{c:Int}(hk:h.k≠256)(ha:fB h.now e=(t,c)):h.app e=if c=0 then (⟨h.ss.take (h.k+1)++[t],h.es.take h.k++[e],h.k+1⟩,0)else (h,c):=by
 unfold HK.app HK.put;rw[azG hk,ha]
theorem al4{n:aQ}(h:Pg n)(c:bC):HK.app ⟨[sK n .none],[],0⟩ (xk c)=(⟨[sK n .none,sK n c],[xk c],1⟩,0):=by
 rw[HK.XA (h:=⟨[sK n .none],[],0⟩) (t:=sK n c) (c:=0) (by show(0:Nat)≠256; decide) (MN (s:=sK n .none) (h.valid _) c),azI rfl]; rfl
theorem ap3{n:aQ}(h:Pg n)(c:bC)(es:List bZ):HK.app ⟨[sK n .none,sK n c],es,1⟩ (.remove 9)=(⟨[sK n .none,sK n c],es,1⟩,8):=by
 rw[HK.XA (h:=⟨[sK n .none,sK n c],es,1⟩) (t := .zero) (c:=8) (by show(1:Nat)≠256; decide) (h.rm9 c),azG (by decide)]
theorem Jj(w:World) :
  Calls prog 26 #[] w fun e w'=>∃m:aJ,e = .returned m.v∧xq w' m∧Ext w w':=by
 skip;refine aze func26 ntmps26 fun S=>azh S [.i 0,.i 0,.u 0,.u 0,.u 0,.u 0,.sn] fun u b2 E3 hb4 S=>azo S (EZ _) ?_;rintro e u ⟨t,rfl,ht,E6⟩;refine⟨_,rfl,E6,fun S=>?_⟩;refine azh S (Sx.L [.i 1,.i 1,.i 0]++t.cells++Sx.L [.sn,.i 0,.u 255,.i 1,.z,.z,.sn,.i 0,.sn,.i 0,.i 0,.i 0,.i 0,.sn,.i 0,.sn,.i 0,.i 0,.sn,.i 0]) (fun u b7 E8 hb9 S=>?_);have UC:=S.bx 1;refine azm S 1 (off:=0) (cs:=[.i 2,.i 1,.u 0,.u 0,.u 0,.u 0,.slice (some ⟨b7,0,none⟩) 1 1]) rfl (fun u C10 S=>?_);have Bf:=TI.dX (ht.below E8) C10 UC;refine azq S 1 rfl (v:=aJ.v ⟨2,1,.none,some ⟨b7,0,none⟩,1,[vw 1 t]⟩) (fun S=>?_);exact⟨_,rfl,ahM Bf (S.lu 0),S.E⟩
theorem al5{base:Nat}{w:World}{m:aJ}(hc:fU base m.s m.ns w)(ho:dJ K w m)(hl:∀n∈m.ns,n.zX K):Sx.aU base (fun W=>dJ K W m∧∀n∈m.ns,n.lim) w:=
 aAF hc fun W h=>⟨⟨ho.1,ho.2.1,h.1.1,fun n hn=>⟨(h.2 n hn).1,(hl n hn).1⟩⟩,fun n hn=>(hl n hn).2⟩
theorem afu{w:World}(hg:dw w) :
  Calls prog 19 #[] w fun e w'=>e = .returned (.bool true)∧Ext w w':=by
 skip;refine aze func19 ntmps19 fun S=>azo S (Jj _) ?_;rintro e u ⟨p,rfl,hp,E3⟩;refine⟨_,rfl,E3,fun S=>?_⟩;have hold:=fun p hp=>(S.own p hp).1.1;have lM:=S.E.size;obtain⟨c0,hc0⟩:∃z:Nat,z=u.heap.size:=⟨_,rfl⟩;have hpg:=hp;refine azo S (PE hpg.1 (dw.below hg S.E) hpg.2.1 (by rw[hpg.2.2.1]; exact hpg.2.2.2.valid _)) ?_;rintro e u ⟨bh,H1,rfl,hcb,hX1,hm1,⟨hok1,hk1⟩,E4⟩;rw[←hc0]at hcb hm1 hold lM;rw[hpg.2.2.1]at hk1;refine⟨_,rfl,E4,fun S=>?_⟩;have S:=S.fl;have S:=S.adopt (A:=H1.cells) hX1 (by omega) (fun p hp=>by have:=hold p hp; omega) (fun m hm=>by cases hm);refine adr S 11 [25,26] [] fun S=>azu S fun S=>azd S fun u b8 E9 zo S=>azf S 0 rfl (fun u Ya S=>?_);have qM:=azg E9 Ya;refine adr S 3 [] [.mem 0 0] (fun S=>?_);have S:=S.fl;refine azj S 1 rfl (mG nH (show EdS _ from .inr rfl) S.E (S.bx 1) (S.old 1) hcb hok1 ((az1 hm1 qM)) (e:=⟨5,0,0,0,bK,⟨255,0,0,255⟩⟩) (dw.below hg S.E) (DN _ (by decide) (by decide) (by decide)) uj) ?_;rintro e u ⟨H2,cd,rfl,hp2,hok2,hm2,hE2,hC2,hX2⟩;obtain⟨hk2,rfl⟩:=aBl (hp2.trans (show _=((⟨[sK Ak .none,sK Ak ⟨255,0,0,255⟩],[xk ⟨255,0,0,255⟩],1⟩:HK),(0:Int))from by rw[hk1]; exact al4 hpg.2.2.2 ⟨255,0,0,255⟩));refine⟨_,_,rfl,hE2,hC2,hX2,fun S=>?_⟩;have zJ:=(Sx.On.ch ((az1 hm1 qM)) hC2 (by omega));have S:=S.fl;refine azj S 1 rfl (mG nH (show EdS _ from .inl rfl) S.E (S.bx 1) (S.old 1) hcb hok2 hm2 (e:=⟨2,9,0,0,bK,.none⟩) (dw.below hg S.E) (DN _ (by decide) (by decide) (by decide)) uj) ?_;rintro e u ⟨H3,cd,rfl,hp3,afp,hm3,hE3,hC3,hX3⟩;obtain⟨hk3,rfl⟩:=aBl (hp3.trans (show _=((⟨[sK Ak .none,sK Ak ⟨255,0,0,255⟩],[xk ⟨255,0,0,255⟩],1⟩:HK),(8:Int))from by rw[hk2]; exact ap3 hpg.2.2.2 ⟨255,0,0,255⟩ _));refine⟨_,_,rfl,hE3,hC3,hX3,fun S=>?_⟩;have EI:=(Sx.On.ch hm2 hC3 (by omega));have S:=S.fl;refine azj S 1 rfl (Xy S.E (S.bx 1) (S.old 1) hcb afp hm3) ?_;rintro e u ⟨H4,cd,rfl,hp4,abH,hm4,hE4,hC4,hX4⟩;obtain⟨hk4,rfl⟩:=aBl (hp4.trans (show _=((⟨[sK Ak .none,sK Ak ⟨255,0,0,255⟩],[xk ⟨255,0,0,255⟩],0⟩:HK),(0:Int))from by rw[hk3]; exact rfl));refine⟨_,_,rfl,hE4,hC4,hX4,fun S=>?_⟩;have EH:=(Sx.On.ch hm3 hC4 (by omega));have zq0:=(S.bx 0).1;have zq1:=(S.bx 1).1;refine azo S (Ci (S.lu 1) abH hm4) ?_;rintro e u ⟨q,rfl,hqc,hqo,hqk,hql,yx⟩;rw[hk4]at hqk;have ZL:=al5 hqc hqo hql;refine⟨_,rfl,yx,fun S=>?_⟩;refine azd S fun u b21 P5 ajH S=>azf S 0 rfl (fun u Ny S=>?_);have Fp:=azg (Ext.trans' yx P5) Ny (by have:=yx.size; omega);have Ux:=azg P5 Ny;have S:=S.fl;refine azj S 2 rfl (Xy S.E (S.bx 2) (S.old 2) hcb abH ((az1 hm4 Fp))) ?_;rintro e u ⟨H5,cd,rfl,hp5,avh,hm5,hE5,hC5,hX5⟩;obtain⟨hk5,rfl⟩:=aBl (hp5.trans (show _=((⟨[sK Ak .none,sK Ak ⟨255,0,0,255⟩],[xk ⟨255,0,0,255⟩],0⟩:HK),(20:Int))from by rw[hk4]; exact rfl));refine⟨_,_,rfl,hE5,hC5,hX5,fun S=>?_⟩;have Di:=(Sx.On.ch ((az1 hm4 Fp)) hC5 (by omega));have tK:=(Sx.On.ch ((az1 ZL Ux)) hC5 (by omega));have S:=S.fl;refine azj S 2 rfl (afi S.E (S.bx 2) (S.old 2) hcb avh hm5) ?_;rintro e u ⟨H6,cd,rfl,hp6,avi,hm6,WB,BN,WC⟩;obtain⟨hk6,rfl⟩:=aBl (hp6.trans (show _=((⟨[sK Ak .none,sK Ak ⟨255,0,0,255⟩],[xk ⟨255,0,0,255⟩],1⟩:HK),(0:Int))from by rw[hk5]; exact rfl));refine⟨_,_,rfl,WB,BN,WC,fun S=>?_⟩;have wB:=(Sx.On.ch hm5 BN (by omega));have A8:=(Sx.On.ch tK BN (by omega));have S:=S.fl;refine azj S 2 rfl (afi S.E (S.bx 2) (S.old 2) hcb avi hm6) ?_;rintro e u ⟨H7,cd,rfl,hp7,al6,hm7,hE7,hC7,hX7⟩;obtain⟨hk7,rfl⟩:=aBl (hp7.trans (show _=((⟨[sK Ak .none,sK Ak ⟨255,0,0,255⟩],[xk ⟨255,0,0,255⟩],1⟩:HK),(20:Int))from by rw[hk6]; exact rfl));refine⟨_,_,rfl,hE7,hC7,hX7,fun S=>?_⟩;have Dj:=(Sx.On.ch hm6 hC7 (by omega));have BM:=(Sx.On.ch A8 hC7 (by omega));refine azp S (aft (S.lu 2) hk7 rfl rfl) fun u G8 S=>azo S (DL (S.lu 2) al6 ((az1 hm7 G8)) (dw.below hg S.E)) ?_;rintro e u ⟨vb,rfl,hvb,UA⟩;refine⟨_,rfl,UA,fun S=>?_⟩;have hold:=fun p hp=>(S.own p hp).1.1;have lM:=S.E.size;have hrw:=aAj ((az1 hm7 (Ext.trans' G8 UA)));refine azo S (ML nH (by rw[hk7]; intro e he; rw[aAb.1 he]; exact .inr rfl) (rowB hvb) al6 (by decide) hrw (dw.below hg S.E)) ?_;rintro e u ⟨bu,G,rfl,hbu,hXG,hmG,abE,hkG,KQ⟩;refine⟨_,rfl,KQ,fun S=>?_⟩;have S:=S.adopt (A:=G.cells) hXG (by omega) (fun p hp=>by have:=hold p hp; omega) (fun m hm=>by cases hm);refine azu S (fun S=>?_);have hEu:=S.E;have hmH:=((az1 hm7 (Ext.trans' G8 (Ext.trans' UA KQ))));have hmG:=hmG;have hqs:=aAj ((az1 BM (Ext.trans' G8 (Ext.trans' UA KQ))));rw[hk7]at hkG;have S:=S.fl;refine Sx.zd2 S Tryz.f19 17 (fun S iz=>?_);have S:=S.sub [(1,.q bh 0),(3,.q b8 0),(4,.i 0),(5,.i 8),(6,.i 0),(7,.q b21 0),(8,.i 20),(9,.i 0),(10,.i 20),(11,.i 1),(12,.i 1),(14,.i 0),(15,.q bu 0),(16,.i 0)];refine Sx.aew S 58 (Rel.is (.i 0)::Rel.is (.bool true)::Rel.is (.bool true)::Rel.is (.i 8)::Rel.is (.bool true)::Rel.is (.bool true)::Rel.is (.bool true)::Rel.is (.i 0)::Rel.is (.bool true)::Rel.is (.bool true)::Rel.is (.bool true)::Rel.is (q.v)::(fun v w1=>∃m:aJ,v=m.v∧xq w1 m)::Rel.is (.bool true)::Rel.is (.bool true)::Rel.is (.bool true)::Rel.is (.i 20)::Rel.is (.bool true)::Rel.is (.bool true)::Rel.is (.bool true)::Rel.is (.i 0)::Rel.is (.bool true)::Rel.is (.bool true)::Rel.is (.bool true)::Rel.is (.i 20)::Rel.is (.bool true)::Rel.is (.bool true)::Rel.is (.bool true)::Rel.is (.q bh 0)::(fun v w1=>∃m:aJ,v=m.v∧m.bg=⟨255,0,0,255⟩)::Rel.is (.agg #[.u 255,.u 0,.u 0,.u 255])::Rel.is (.agg #[.u 255,.u 0,.u 0,.u 255])::Rel.is (.bool true)::Rel.is (.bool true)::Rel.is (.bool true)::Rel.is (.i 1)::Rel.is (.bool true)::Rel.is (.bool true)::Rel.is (.bool true)::Rel.is (.i 1)::Rel.is (.bool true)::Rel.is (.bool true)::Rel.is (.bool true)::Rel.is (.i 0)::Rel.is (.bool true)::Rel.is (.bool true)::Rel.is (.bool true)::Rel.is (.i 0)::Rel.is (.bool true)::Rel.is (.bool true)::Rel.is (.bool true)::Rel.is (.q bu 0)::(fun v w1=>∃m:aJ,v=m.v∧m.bg=⟨255,0,0,255⟩)::Rel.is (.agg #[.u 255,.u 0,.u 0,.u 255])::Rel.is (.agg #[.u 255,.u 0,.u 0,.u 255])::Rel.is (.bool true)::Rel.is (.bool true)::Rel.is (.bool true)::[]) 57 0 (.bool true) ⟨Rel.aG _,Rel.aG _,Rel.aG _,Rel.aG _,Rel.aG _,Rel.aG _,Rel.aG _,Rel.aG _,Rel.aG _,Rel.aG _,Rel.aG _,Rel.aG _,fun _ _ _ k h=>by obtain⟨m,e,h⟩:=h; exact⟨m,e,h.below k⟩,Rel.aG _,Rel.aG _,Rel.aG _,Rel.aG _,Rel.aG _,Rel.aG _,Rel.aG _,Rel.aG _,Rel.aG _,Rel.aG _,Rel.aG _,Rel.aG _,Rel.aG _,Rel.aG _,Rel.aG _,Rel.aG _,fun _ _ _ k h=>by obtain⟨m,e,h⟩:=h; exact⟨m,e,h⟩,Rel.aG _,Rel.aG _,Rel.aG _,Rel.aG _,Rel.aG _,Rel.aG _,Rel.aG _,Rel.aG _,Rel.aG _,Rel.aG _,Rel.aG _,Rel.aG _,Rel.aG _,Rel.aG _,Rel.aG _,Rel.aG _,Rel.aG _,Rel.aG _,Rel.aG _,Rel.aG _,Rel.aG _,Rel.aG _,fun _ _ _ k h=>by obtain⟨m,e,h⟩:=h; exact⟨m,e,h⟩,Rel.aG _,Rel.aG _,Rel.aG _,Rel.aG _,Rel.aG _,trivial⟩ ⟨fun ρ u1 hs ho hC hD=>azi hs [(4,.i 0)] ⟨(ho 4 rfl).trans (S.s.ev rfl),trivial⟩,
  fun ρ u1 hs ho hC hD=>azi hs [(63,.i 0)] ⟨hD.1 rfl,trivial⟩,
  fun ρ u1 hs ho hC hD=>azi hs [(64,.bool true)] ⟨hD.1 rfl,trivial⟩,
  fun ρ u1 hs ho hC hD=>⟨fun _=>azi hs [(5,.i 8)] ⟨(ho 5 rfl).trans (S.s.ev rfl),trivial⟩,fun hn=>absurd (hD.1 rfl) hn⟩,
  fun ρ u1 hs ho hC hD=>⟨fun _=>azi hs [(66,.i 8)] ⟨hD.1 rfl,trivial⟩,fun hn=>absurd (hD.2.1 rfl) hn⟩,
  fun ρ u1 hs ho hC hD=>azi hs [(65,.bool true),(67,.bool true)] ⟨hD.1 rfl,hD.2.1 rfl,trivial⟩,
  fun ρ u1 hs ho hC hD=>azi hs [(68,.bool true)] ⟨hD.1 rfl,trivial⟩,
  fun ρ u1 hs ho hC hD=>⟨fun _=>azi hs [(6,.i 0)] ⟨(ho 6 rfl).trans (S.s.ev rfl),trivial⟩,fun hn=>absurd (hD.1 rfl) hn⟩,
  fun ρ u1 hs ho hC hD=>⟨fun _=>azi hs [(70,.i 0)] ⟨hD.1 rfl,trivial⟩,fun hn=>absurd (hD.2.1 rfl) hn⟩,
  fun ρ u1 hs ho hC hD=>azi hs [(69,.bool true),(71,.bool true)] ⟨hD.1 rfl,hD.2.1 rfl,trivial⟩,
  fun ρ u1 hs ho hC hD=>azi hs [(72,.bool true)] ⟨hD.1 rfl,trivial⟩,
  fun ρ u1 hs ho hC hD=>⟨fun _=>Sx.dld ((ho 7 rfl).trans (S.s.ev rfl)) (((S.bx 1).ext hC).range 0 7 rfl),fun hn=>absurd (hD.1 rfl) hn⟩,
  fun ρ u1 hs ho hC hD=>⟨fun _=>Sx.dc (T:=fun v w1=>∃m:aJ,v=m.v∧xq w1 m) hs [] trivial ((Jj _).mono fun e w2 ⟨m,h1,h2,h3⟩=>⟨_,h1,h3,m,rfl,h2⟩),fun hn=>absurd (hD.1 rfl) hn⟩,
  fun ρ u1 hs ho hC hD=>⟨fun _=>Sx.dc (T:=Rel.is (.bool true)) hs [(74,q.v),(75,ρ (.tmp 75))] ⟨hD.1 rfl,rfl,trivial⟩ ((al3 (hD.2.1 rfl) (hqs.1.below hC) hqk).mono fun e w2 h=>⟨_,h.1,h.2,rfl⟩),fun hn=>absurd (hD.2.2.2.1 rfl) hn⟩,
  fun ρ u1 hs ho hC hD=>azi hs [(73,.bool true),(76,.bool true)] ⟨hD.1 rfl,hD.2.1 rfl,trivial⟩,
  fun ρ u1 hs ho hC hD=>azi hs [(77,.bool true)] ⟨hD.1 rfl,trivial⟩,
  fun ρ u1 hs ho hC hD=>⟨fun _=>azi hs [(8,.i 20)] ⟨(ho 8 rfl).trans (S.s.ev rfl),trivial⟩,fun hn=>absurd (hD.1 rfl) hn⟩,
  fun ρ u1 hs ho hC hD=>⟨fun _=>azi hs [(79,.i 20)] ⟨hD.1 rfl,trivial⟩,fun hn=>absurd (hD.2.1 rfl) hn⟩,
  fun ρ u1 hs ho hC hD=>azi hs [(78,.bool true),(80,.bool true)] ⟨hD.1 rfl,hD.2.1 rfl,trivial⟩,
  fun ρ u1 hs ho hC hD=>azi hs [(81,.bool true)] ⟨hD.1 rfl,trivial⟩,
  fun ρ u1 hs ho hC hD=>⟨fun _=>azi hs [(9,.i 0)] ⟨(ho 9 rfl).trans (S.s.ev rfl),trivial⟩,fun hn=>absurd (hD.1 rfl) hn⟩,
  fun ρ u1 hs ho hC hD=>⟨fun _=>azi hs [(83,.i 0)] ⟨hD.1 rfl,trivial⟩,fun hn=>absurd (hD.2.1 rfl) hn⟩,
  fun ρ u1 hs ho hC hD=>azi hs [(82,.bool true),(84,.bool true)] ⟨hD.1 rfl,hD.2.1 rfl,trivial⟩,
  fun ρ u1 hs ho hC hD=>azi hs [(85,.bool true)] ⟨hD.1 rfl,trivial⟩,
  fun ρ u1 hs ho hC hD=>⟨fun _=>azi hs [(10,.i 20)] ⟨(ho 10 rfl).trans (S.s.ev rfl),trivial⟩,fun hn=>absurd (hD.1 rfl) hn⟩,
  fun ρ u1 hs ho hC hD=>⟨fun _=>azi hs [(87,.i 20)] ⟨hD.1 rfl,trivial⟩,fun hn=>absurd (hD.2.1 rfl) hn⟩,
  fun ρ u1 hs ho hC hD=>azi hs [(86,.bool true),(88,.bool true)] ⟨hD.1 rfl,hD.2.1 rfl,trivial⟩,
  fun ρ u1 hs ho hC hD=>azi hs [(89,.bool true)] ⟨hD.1 rfl,trivial⟩,
  fun ρ u1 hs ho hC hD=>⟨fun _=>azi hs [(1,.q bh 0)] ⟨(ho 1 rfl).trans (S.s.ev rfl),trivial⟩,fun hn=>absurd (hD.1 rfl) hn⟩,
  fun ρ u1 hs ho hC hD=>⟨fun _=>Sx.dc (T:=fun v w1=>∃m:aJ,v=m.v∧m.bg=⟨255,0,0,255⟩) hs [(91,.q bh 0)] ⟨hD.1 rfl,trivial⟩ ((Ci ((S.bx 3).ext hC) al6 (az1 hmH hC)).mono fun e w2 ⟨m,h1,h2,h3,h4,h5,h6⟩=>⟨_,h1,h6,m,rfl,by rw[hk7]at h4; exact azT bD.bg h4⟩),fun hn=>absurd (hD.2.1 rfl) hn⟩,
  fun ρ u1 hs ho hC hD=>⟨fun _=>(by obtain⟨⟨mw,mh,mb,ma,mc,ml⟩,em,hb⟩:=(hD.1 rfl); obtain rfl:mb=_:=hb; exact azi hs [(92,aJ.v ⟨mw,mh,_,ma,mc,ml⟩)] ⟨em,trivial⟩),fun hn=>absurd (hD.2.1 rfl) hn⟩,
  fun ρ u1 hs ho hC hD=>⟨fun _=>Sx.dld ((ho 3 rfl).trans (S.s.ev rfl)) (((S.bx 2).ext hC).range 0 4 rfl),fun hn=>absurd (hD.1 rfl) hn⟩,
  fun ρ u1 hs ho hC hD=>⟨fun _=>azi hs [(93,.agg #[.u 255,.u 0,.u 0,.u 255]),(94,.agg #[.u 255,.u 0,.u 0,.u 255])] ⟨hD.1 rfl,hD.2.1 rfl,trivial⟩,fun hn=>absurd (hD.2.2.1 rfl) hn⟩,
  fun ρ u1 hs ho hC hD=>azi hs [(90,.bool true),(95,.bool true)] ⟨hD.1 rfl,hD.2.1 rfl,trivial⟩,
  fun ρ u1 hs ho hC hD=>azi hs [(96,.bool true)] ⟨hD.1 rfl,trivial⟩,
  fun ρ u1 hs ho hC hD=>⟨fun _=>azi hs [(11,.i 1)] ⟨(ho 11 rfl).trans (S.s.ev rfl),trivial⟩,fun hn=>absurd (hD.1 rfl) hn⟩,
  fun ρ u1 hs ho hC hD=>⟨fun _=>azi hs [(98,.i 1)] ⟨hD.1 rfl,trivial⟩,fun hn=>absurd (hD.2.1 rfl) hn⟩,
  fun ρ u1 hs ho hC hD=>azi hs [(97,.bool true),(99,.bool true)] ⟨hD.1 rfl,hD.2.1 rfl,trivial⟩,
  fun ρ u1 hs ho hC hD=>azi hs [(100,.bool true)] ⟨hD.1 rfl,trivial⟩,
  fun ρ u1 hs ho hC hD=>⟨fun _=>azi hs [(12,.i 1)] ⟨(ho 12 rfl).trans (S.s.ev rfl),trivial⟩,fun hn=>absurd (hD.1 rfl) hn⟩,
  fun ρ u1 hs ho hC hD=>⟨fun _=>azi hs [(102,.i 1)] ⟨hD.1 rfl,trivial⟩,fun hn=>absurd (hD.2.1 rfl) hn⟩,
  fun ρ u1 hs ho hC hD=>azi hs [(101,.bool true),(103,.bool true)] ⟨hD.1 rfl,hD.2.1 rfl,trivial⟩,
  fun ρ u1 hs ho hC hD=>azi hs [(104,.bool true)] ⟨hD.1 rfl,trivial⟩,
  fun ρ u1 hs ho hC hD=>⟨fun _=>azi hs [(14,.i 0)] ⟨(ho 14 rfl).trans (S.s.ev rfl),trivial⟩,fun hn=>absurd (hD.1 rfl) hn⟩,
  fun ρ u1 hs ho hC hD=>⟨fun _=>azi hs [(106,.i 0)] ⟨hD.1 rfl,trivial⟩,fun hn=>absurd (hD.2.1 rfl) hn⟩,
  fun ρ u1 hs ho hC hD=>azi hs [(105,.bool true),(107,.bool true)] ⟨hD.1 rfl,hD.2.1 rfl,trivial⟩,
  fun ρ u1 hs ho hC hD=>azi hs [(108,.bool true)] ⟨hD.1 rfl,trivial⟩,
  fun ρ u1 hs ho hC hD=>⟨fun _=>azi hs [(16,.i 0)] ⟨(ho 16 rfl).trans (S.s.ev rfl),trivial⟩,fun hn=>absurd (hD.1 rfl) hn⟩,
  fun ρ u1 hs ho hC hD=>⟨fun _=>azi hs [(110,.i 0)] ⟨hD.1 rfl,trivial⟩,fun hn=>absurd (hD.2.1 rfl) hn⟩,
  fun ρ u1 hs ho hC hD=>azi hs [(109,.bool true),(111,.bool true)] ⟨hD.1 rfl,hD.2.1 rfl,trivial⟩,
  fun ρ u1 hs ho hC hD=>azi hs [(112,.bool true)] ⟨hD.1 rfl,trivial⟩,
  fun ρ u1 hs ho hC hD=>⟨fun _=>azi hs [(15,.q bu 0)] ⟨(ho 15 rfl).trans (S.s.ev rfl),trivial⟩,fun hn=>absurd (hD.1 rfl) hn⟩,
  fun ρ u1 hs ho hC hD=>⟨fun _=>Sx.dc (T:=fun v w1=>∃m:aJ,v=m.v∧m.bg=⟨255,0,0,255⟩) hs [(114,.q bu 0)] ⟨hD.1 rfl,trivial⟩ ((Ci ((S.bx 0).ext hC) abE (az1 hmG hC)).mono fun e w2 ⟨m,h1,h2,h3,h4,h5,h6⟩=>⟨_,h1,h6,m,rfl,by rw[hkG]at h4; exact azT bD.bg h4⟩),fun hn=>absurd (hD.2.1 rfl) hn⟩,
  fun ρ u1 hs ho hC hD=>⟨fun _=>(by obtain⟨⟨mw,mh,mb,ma,mc,ml⟩,em,hb⟩:=(hD.1 rfl); obtain rfl:mb=_:=hb; exact azi hs [(115,aJ.v ⟨mw,mh,_,ma,mc,ml⟩)] ⟨em,trivial⟩),fun hn=>absurd (hD.2.1 rfl) hn⟩,
  fun ρ u1 hs ho hC hD=>⟨fun _=>Sx.dld ((ho 3 rfl).trans (S.s.ev rfl)) (((S.bx 2).ext hC).range 0 4 rfl),fun hn=>absurd (hD.1 rfl) hn⟩,
  fun ρ u1 hs ho hC hD=>⟨fun _=>azi hs [(116,.agg #[.u 255,.u 0,.u 0,.u 255]),(117,.agg #[.u 255,.u 0,.u 0,.u 255])] ⟨hD.1 rfl,hD.2.1 rfl,trivial⟩,fun hn=>absurd (hD.2.2.1 rfl) hn⟩,
  fun ρ u1 hs ho hC hD=>azi hs [(113,.bool true),(118,.bool true)] ⟨hD.1 rfl,hD.2.1 rfl,trivial⟩,
  fun ρ u1 hs ho hC hD=>azi hs [(119,.bool true)] ⟨hD.1 rfl,trivial⟩,trivial⟩ (fun ac u E45 S=>?_) rfl
 refine Sx.zdF S 58 fun S=>ay9 S (.bool true) (fun S=>?_);exact⟨rfl,S.E⟩
end
section
open Go.RowKit En
def cl(i:Nat):bC:=⟨UInt8.ofNat i,0,0,255⟩
def oJ:Nat→HK
 | 0=>⟨[sK Ak .none],[],0⟩
 | i+1=>⟨(oJ i).ss++[sK Ak (cl i)],(oJ i).es++[xk (cl i)],i+1⟩
theorem lQ(i:Nat):(oJ i).ss.length=i+1∧(oJ i).es.length=i∧(oJ i).k=i:=by
 induction i with
 | zero=>exact⟨rfl,rfl,rfl⟩
 | succ i h=>simp[oJ,h]
theorem Uf(i:Nat):∃c,(oJ i).now=sK Ak c:=by
 cases i with
 | zero=>exact⟨_,rfl⟩
 | succ i=>exact⟨cl i,by simp[HK.now,oJ,(lQ i).1]⟩
theorem Ug(hN:Pg Ak){h:HK}{d:bC}(hk:h.k≠256)(hn:h.now=sK Ak d)(c:bC):HK.app h (xk c)=(⟨h.ss.take (h.k+1)++[sK Ak c],h.es.take h.k++[xk c],h.k+1⟩,0):=by
 rw[HK.XA (t:=sK Ak c) (c:=0) hk (by rw[hn]; exact MN (hN.valid d) c),azI rfl]
theorem afv(hN:Pg Ak){i:Nat}(hi:i<256):HK.app (oJ i) (xk (cl i))=(oJ (i+1),0):=by
 obtain⟨h1,h2,h3⟩:=lQ i;obtain⟨d,hd⟩:=Uf i;rw[Ug hN (by omega) hd,h3,aAp (by omega),aAp (by omega)];rfl
theorem ahN(i:Nat):∀e∈(oJ i).es,EdS e:=by
 induction i with
 | zero=>intro e h; cases h
 | succ i ih =>
  intro e h;rcases aAl.1 h with h | h
  ·exact ih e h
  rw[aAb.1 h]; exact .inr rfl
theorem MP(e:bZ):HK.app (oJ 256) e=(oJ 256,5):=azI (lQ 256).2.2
def ahO:HK:=⟨(oJ 256).ss,(oJ 256).es,255⟩
theorem abI:HK.undo (oJ 256)=(ahO,0):=azG (by rw[(lQ 256).2.2]; decide)
def XB(c:bC):HK:=⟨(oJ 256).ss.take 256++[sK Ak c],(oJ 256).es.take 255++[xk c],256⟩
theorem afw(hN:Pg Ak)(c:bC):HK.app ahO (xk c)=(XB c,0):=by
 obtain⟨d,hd⟩:=Uf 255;have h1:=(lQ 255).1;exact Ug hN (h:=ahO) (d:=d) (by show(255:Nat)≠256; decide) (by
  rw[←hd];show(((oJ 255).ss++[sK Ak (cl 255)])[255]?).getD _=((oJ 255).ss[255]?).getD _;rw[List.getElem?_append_left (by omega)]) c
theorem afx(c:bC):(XB c).now=sK Ak c:=by simp[HK.now,XB,(lQ 256).1]
theorem afy(c:bC):(XB c).es.length=256:=by simp[XB,(lQ 256).2.1]
theorem ahP:(oJ 256).now.bg=⟨255,0,0,255⟩:=by
 show((((oJ 255).ss++[sK Ak (cl 255)])[256]?).getD _).bg=_;simp[(lQ 255).1,sK,cl]
end
section
open Go.RowKit
theorem ahQ{W:World}{base:Nat}{v:Value}(h:Cell.okWide prog W .any base 5 v):∃n:UInt8,v=gu n:=by
 unfold Cell.okWide Cell.ok at h;rw[underlying5]at h;cases v with
 | int k n =>
  obtain⟨rfl,h1,h2⟩:=h;have h3:(0:Int)≤n:=h1;have h4:n≤255:=h2;refine⟨UInt8.ofNat n.toNat,?_⟩;have:(UInt8.ofNat n.toNat).toNat=n.toNat:=by simp; omega
  unfold gu;rw[this,Int.toNat_of_nonneg h3]
 | _=>exact h.elim
theorem ZN{W:World}{base:Nat}{v:Value}(hv:Value.okWide prog W .any base 40 v):∃m:bC,v = .agg m.cells.toArray∧True:=by
 unfold Value.okWide at hv;rw[underlying40]at hv;obtain⟨⟨cs⟩,rfl,hsz,ts,hts,-,h⟩:=hv;obtain rfl:ts=[5,5,5,5]:=azR (hts.symm.trans (by kernel_rfl));have hl:cs.length=4:=hsz.trans (by kernel_rfl);have key:∀i,i<4→∀v,cs[i]?=some v→∃n:UInt8,v=gu n:=fun i hi v hv=>by
  obtain⟨u,hu,hc⟩:=h i v (by simpa using hv);have e:u=5:=by
   have:i=0∨i=1∨i=2∨i=3:=by omega
   rcases this with rfl | rfl | rfl | rfl<;>exact(azR hu).symm
  exact ahQ (e▸hc)
 obtain⟨a,b,c,d,rfl⟩:∃a b c d,cs=[a,b,c,d]:=by
  match cs,hl with
  | [a,b,c,d],_=>exact⟨a,b,c,d,rfl⟩
 obtain⟨r,rfl⟩:=key 0 (by decide) _ rfl;obtain⟨g,rfl⟩:=key 1 (by decide) _ rfl;obtain⟨b,rfl⟩:=key 2 (by decide) _ rfl;obtain⟨a,rfl⟩:=key 3 (by decide) _ rfl;exact⟨⟨r,g,b,a⟩,rfl,trivial⟩
end
section
open Go.RowKit En Go.Sx
abbrev UJ (c:bC):bn:=⟨5,0,0,0,bK,c⟩
abbrev lB (bu b6 b1:Nat):List (Nat×Value):=[(1,.q b1 0),(6,.q b6 0),(12,.q bu 0)]
abbrev bB (b6 b1:Nat)(c:bC):List (Nat×List Value):=[(b6,bn.cells (UJ c)),(b1,c.cells)]
theorem Uh{P:Program}{os:Array Oper}{Q:Exit→Act→World→Prop}{f:Nat}{L L':Array Bool}{a:Act}{w:World}(h:wpAny P .any os Q f L' a w)(hL:L=L':=by kernel_rfl):wpAny P .any os Q f L a w:=hL▸h
theorem St.kp{w0 w:World}{a:Act}{n:Nat}{l:List (Nat×Value)}{bl Az:List (Nat×List Value)}{vs:List eX}(S:Sx.St w0 a w n l bl vs)(h:Az.Sublist bl):Sx.St w0 a w n l Az []:=
 ⟨S.s,S.E,fun p hp=>S.own p (h.subset hp),(S.apart).sublist (h.map _),fun m hm=>by cases hm⟩
theorem ap4{w0 w:World}{a:Act}{Q:Exit→Act→World→Prop}{id bu b6 b1 c1:Nat}{G:HD}{c:bC}(S:Sx.St w0 a w 123 (lB bu b6 b1) ((bu,G.cells)::bB b6 b1 c) [])(hg:dw w0)(hcb:c1≤bu)(hok:G.Ok 5000)(hm:G.mem 5000 c1 bu w)(hk:G.key=oJ 256)(hN:Pg Ak)
  (next:∀a' w' (G':HD),G'.key=XB c→Sx.St w0 a' w' 123 [(108,.z),(12,.q bu 0)] ((bu,G'.cells)::bB b6 b1 c) []→wpList prog (CY Tryz.f6 17).toArray Q [] a' w'):(Code.region id (CY Tryz.f6 17).toArray true).wp prog Q a w:=by
 refine Sx.ordered S 22 (fun ac u E S=>?_);replace hm:=az1 hm E;have J1:∀(ac:Act),Sx.St w0 ac u 123 ((88,(UJ c).v)::(87,.q bu 0)::lB bu b6 b1) ((bu,G.cells)::bB b6 b1 c) []→wpAny prog .any (CY Tryz.f6 17).toArray Q 20 ((List.replicate 2 true++List.replicate 20 false).toArray) ac u:=by
  intro ac S;refine aAy 2<|Sx.aiB S 0 (some 89) rfl (mG (e:=UJ c) nH (show EdS _ from .inr rfl) S.E (S.bx 0) (S.old 0) hcb hok hm (dw.below hg S.E) (DN _ (by decide) (by decide) (by decide)) uj) ?_;rintro e u ⟨G2,cd,rfl,hp,hok,hm,hE,hC,hX⟩;obtain⟨hk,rfl⟩:=aBl (hp.trans (show _=((oJ 256:HK),(5:Int))from by rw[hk]; exact MP _));refine⟨_,_,rfl,hE,hC,hX,fun ac S=>?_⟩;refine azA ?_;have S:=Sx.St.akD ((bu,G2.cells)::bB b6 b1 c) S;refine aAy 3<|apB S 1 [] [(90,.z)] fun S=>azA<|aAy 4<|apB S 1 [] [(91,.z)] fun S=>azA<|aAy 5<|apB S 1 [] [(92,.q bu 0)] fun S=>azA<|aAy 6<|Sx.Xz S 0 (some 93) rfl (Xy S.E (S.bx 0) (S.old 0) hcb hok hm) ?_;rintro e u ⟨G3,cd,rfl,hp,hok,hm,hE,hC,hX⟩;obtain⟨hk,rfl⟩:=aBl (hp.trans (show _=((ahO:HK),(0:Int))from by rw[hk]; exact abI));refine⟨_,_,rfl,hE,hC,hX,fun ac S=>?_⟩;refine azA ?_;have S:=Sx.St.akD ((bu,G3.cells)::bB b6 b1 c) S;refine aAy 7<|apB S 1 [] [(94,.z)] fun S=>azA<|aAy 8<|apB S 1 [] [(95,.z)] fun S=>azA<|aAy 9<|apB S 1 [] [(96,.z)] fun S=>azA ?_;replace S:=S.sub ((96,.z)::lB bu b6 b1);have J2:∀(ac:Act),Sx.St w0 ac u 123 ((98,(UJ c).v)::(97,.q bu 0)::(96,.z)::lB bu b6 b1) ((bu,G3.cells)::bB b6 b1 c) []→wpAny prog .any (CY Tryz.f6 17).toArray Q 10 ((List.replicate 12 true++List.replicate 10 false).toArray) ac u:=by
   intro ac S;refine aAy 12<|Sx.Xz S 0 (some 99) rfl (mG (e:=UJ c) nH (show EdS _ from .inr rfl) S.E (S.bx 0) (S.old 0) hcb hok hm (dw.below hg S.E) (DN _ (by decide) (by decide) (by decide)) uj) ?_;rintro e u ⟨G4,cd,rfl,hp,hok,hm,hE,hC,hX⟩;obtain⟨hk,rfl⟩:=aBl (hp.trans (show _=((XB c:HK),(0:Int))from by rw[hk]; exact afw hN c));refine⟨_,_,rfl,hE,hC,hX,fun ac S=>?_⟩;refine azA ?_;have S:=Sx.St.akD ((bu,G4.cells)::bB b6 b1 c) S;refine aAy 13<|apB S 1 [] [(100,.z)] fun S=>azA<|aAy 14<|apB S 1 [] [(101,.z)] fun S=>azA<|aAy 15<|apB S 1 [] [(102,.z)] fun S=>azA ?_;replace S:=S.sub ((102,.z)::lB bu b6 b1);have J3:∀(ac:Act) (u:World),Sx.St w0 ac u 123 ((106,.agg c.cells.toArray)::(105,.agg c.cells.toArray)::(102,.z)::lB bu b6 b1) ((bu,G4.cells)::bB b6 b1 c) []→wpAny prog .any (CY Tryz.f6 17).toArray Q 2 ((List.replicate 20 true++List.replicate 2 false).toArray) ac u:=by
    intro ac u S;refine aAy 20<|apB S 1 [.cmp .neq 40 (.tmp 105) (.tmp 106) (.agg c.cells.toArray) (.agg c.cells.toArray) (.z)] [(107,.z)] (hk:=⟨(azD (fun w=>(adL c c w).trans (by simp)) (by kernel_rfl)),trivial⟩) fun S=>azA<|aAy 21<|apB S 1 [] [(108,.z)] fun S=>azA<|Sx.NS 22 (next _ _ G4 hk (S.sub [(108,.z),(12,.q bu 0)]))
   have hsc:=(Ci (S.bx 0) hok hm).mono (R':=fun e w'=>∃mw mh ma mc ml,e = .returned (aJ.v ⟨mw,mh,c,ma,mc,ml⟩)∧Ext u w') fun e w' ⟨⟨mw,mh,mb,ma,mc,ml⟩,h,_,_,hq,_,E⟩=>by rw[hk,afx]at hq; obtain rfl:c=mb:=(azT bD.bg hq).symm; exact⟨_,_,_,_,_,h,E⟩
   refine Sx.Vz 16 19 ?_ ?_
   ·refine apB S 1 [] [(103,.q bu 0)] fun S=>azA<|Sx.Vz 17 19 ?_ ?_
    ·refine Sx.zZ S (some 104) hsc ?_;rintro e u ⟨mw,mh,ma,mc,ml,rfl,E⟩;refine⟨_,rfl,E,fun ac S=>?_⟩;refine azA<|Sx.Vz 18 19 ?_ ?_
     ·refine apB S 1 [] [(105,.agg c.cells.toArray)] fun S=>azA<|aAy 19<|apB S 1 [.mem 2 0] [(106,.agg c.cells.toArray)] fun S=>azA ?_;exact Uh (J3 _ _ (S.sub ((106,.agg c.cells.toArray)::(105,.agg c.cells.toArray)::(102,.z)::lB bu b6 b1)))
     refine apB S 1 [.mem 2 0] [(106,.agg c.cells.toArray)] fun S=>azA<|aAy 18<|apB S 1 [] [(105,.agg c.cells.toArray)] fun S=>azA ?_;exact Uh (J3 _ _ (S.sub ((106,.agg c.cells.toArray)::(105,.agg c.cells.toArray)::(102,.z)::lB bu b6 b1)))
    refine apB S 1 [.mem 2 0] [(106,.agg c.cells.toArray)] fun S=>azA<|aAy 17<|Sx.zZ S (some 104) hsc ?_;rintro e u ⟨mw,mh,ma,mc,ml,rfl,E⟩;refine⟨_,rfl,E,fun ac S=>?_⟩;refine azA<|aAy 18<|apB S 1 [] [(105,.agg c.cells.toArray)] fun S=>azA ?_;exact Uh (J3 _ _ (S.sub ((106,.agg c.cells.toArray)::(105,.agg c.cells.toArray)::(102,.z)::lB bu b6 b1)))
   refine apB S 1 [.mem 2 0] [(106,.agg c.cells.toArray)] fun S=>azA<|aAy 16<|apB S 1 [] [(103,.q bu 0)] fun S=>azA<|aAy 17<|Sx.zZ S (some 104) hsc ?_;rintro e u ⟨mw,mh,ma,mc,ml,rfl,E⟩;refine⟨_,rfl,E,fun ac S=>?_⟩;refine azA<|aAy 18<|apB S 1 [] [(105,.agg c.cells.toArray)] fun S=>azA ?_;exact Uh (J3 _ _ (S.sub ((106,.agg c.cells.toArray)::(105,.agg c.cells.toArray)::(102,.z)::lB bu b6 b1)))
  refine Sx.Vz 10 11 ?_ ?_
  ·refine apB S 1 [] [(97,.q bu 0)] fun S=>azA<|aAy 11<|apB S 1 [.mem 1 0] [(98,(UJ c).v)] fun S=>azA ?_;exact Uh (J2 _ (S.sub ((98,(UJ c).v)::(97,.q bu 0)::(96,.z)::lB bu b6 b1)))
  refine apB S 1 [.mem 1 0] [(98,(UJ c).v)] fun S=>azA<|aAy 10<|apB S 1 [] [(97,.q bu 0)] fun S=>azA ?_;exact Uh (J2 _ (S.sub ((98,(UJ c).v)::(97,.q bu 0)::(96,.z)::lB bu b6 b1)))
 refine Sx.Vz 0 1 ?_ ?_
 ·refine apB S 1 [] [(87,.q bu 0)] fun S=>azA<|aAy 1<|apB S 1 [.mem 1 0] [(88,(UJ c).v)] fun S=>azA ?_;exact Uh (J1 _ (S.sub ((88,(UJ c).v)::(87,.q bu 0)::lB bu b6 b1)))
 refine apB S 1 [.mem 1 0] [(88,(UJ c).v)] fun S=>azA<|aAy 0<|apB S 1 [] [(87,.q bu 0)] fun S=>azA ?_;exact Uh (J1 _ (S.sub ((88,(UJ c).v)::(87,.q bu 0)::lB bu b6 b1)))
theorem ap5{j:Nat}(h:j<256):Value.u (IntKind.u8.wrap (j:Int)) = .u ((UInt8.ofNat j).toNat:Int):=by
 rw[IntKind.wrap_u8]; congr 1
set_option maxRecDepth 100000 in
set_option maxHeartbeats 3200000 in
theorem CO{w:World}{c:bC}(hc:True)(hg:dw w) :
  Calls prog 6 #[.agg c.cells.toArray] w fun r w'=>r = .returned (.bool true)∧Ext w w':=by
 skip;refine aze func6 ntmps6 fun S=>azd S fun u b2 E3 hb4 S=>azo S (Jj _) ?_;rintro e u ⟨p,rfl,hp,E6⟩;refine⟨_,rfl,E6,fun S=>?_⟩;have hold:=fun p hp=>(S.own p hp).1.1;have lM:=S.E.size;obtain⟨c0,hc0⟩:∃z:Nat,z=u.heap.size:=⟨_,rfl⟩;have hpg:=hp;refine azo S (PE hpg.1 (dw.below hg S.E) hpg.2.1 (by rw[hpg.2.2.1]; exact hpg.2.2.2.valid _)) ?_;rintro e u ⟨bh,H1,rfl,hcb,hX1,hm1,⟨hok1,hk1⟩,E7⟩;rw[←hc0]at hcb hm1 hold lM;rw[hpg.2.2.1]at hk1;refine⟨_,rfl,E7,fun S=>?_⟩;have S:=S.fl;have S:=S.adopt (A:=H1.cells) hX1 (by omega) (fun p hp=>by have:=hold p hp; omega) (fun m hm=>by cases hm);refine adr S 11 [24,25] [] fun S=>azu S fun S=>azw S (ι:=Nat×HD) (fun p a' w'=>(p.2.key=oJ p.1∧p.2.Ok 20∧p.2.mem 20 c0 bh w'∧p.1≤256)∧Sx.St w a' w' 123 [(0,.agg c.cells.toArray),(1,.q b2 0),(2,.z),(3,.q bh 0),(4,.i 0),(27,.i p.1)] [(bh,p.2.cells),(b2,c.cells)] []) (fun p=>256-p.1) (0,H1) (fun S=>⟨⟨hk1,hok1,hm1,azQ _⟩,S.sN⟩) ?_;rintro⟨j,H2⟩ ac u gW eH hI;try dsimp only at hI
 obtain⟨hR,S⟩:=hI;refine azx S (fun S=>?_);obtain⟨hk2,hok2,hm2,hj0⟩:=hR;have lM:=S.E.size;refine azb S (decide ((j:Int)<256)) (fun pR S=>?_) (fun pR S=>?_)
 ·have hj:j<256:=by have:=azZ pR; omega
  refine adr S 7 [] [.re 32 (.u (IntKind.u8.wrap (j:Int))) (.u ((UInt8.ofNat j).toNat:Int))] (fun S=>?_) (hk:=⟨(ap5 hj),trivial⟩);have S:=S.fl;refine azj S 0 rfl (mG nH (show EdS _ from .inr rfl) S.E (S.bx 0) (S.old 0) hcb hok2 hm2 (e:=UJ (cl j)) (dw.below hg S.E) (DN _ (by decide) (by decide) (by decide)) uj) ?_;rintro e u ⟨H3,cd,rfl,hp3,afp,hm3,hE3,hC3,hX3⟩;obtain⟨hk3,rfl⟩:=aBl (hp3.trans (show _=((oJ (j+1):HK),(0:Int))from by rw[hk2]; exact afv hpg.2.2.2 hj));refine⟨_,_,rfl,hE3,hC3,hX3,fun S=>?_⟩;have EH:=(Sx.On.ch hm2 hC3 (by omega));refine azu S fun S=>adr S 2 [] [.re 37 (.i (IntKind.i64.wrap ((j:Int)+1))) (.i (j+1:Nat))] (hk:=⟨(wrap_succ (by omega)),trivial⟩) fun S=>azy S gW (fun S=>?_);exact eH _ _ ((j+1),H3) ⟨⟨hk3,afp,hm3,hj⟩,S.sN⟩ (by show 256-(j+1)<256-j; omega)
 obtain rfl:j=256:=by have:=az4 pR; omega
 refine adr S 2 [] [.mem 1 0] fun S=>azd S fun u b20 Aq P8 S=>azf S 0 rfl (fun u C23 S=>?_);have Aw:=azg Aq C23;refine adr S 2 [] [.mem 0 0] (fun S=>?_);have S:=S.fl;refine azj S 1 rfl (mG nH (show EdS _ from .inr rfl) S.E (S.bx 1) (S.old 1) hcb hok2 ((az1 hm2 Aw)) (e:=UJ c) (dw.below hg S.E) (DN _ (by decide) (by decide) (by decide)) uj) ?_;rintro e u ⟨H4,cd,rfl,hp4,abH,hm4,hE4,hC4,hX4⟩;obtain⟨hk4,rfl⟩:=aBl (hp4.trans (show _=((oJ 256:HK),(5:Int))from by rw[hk2]; exact MP _));refine⟨_,_,rfl,hE4,hC4,hX4,fun S=>?_⟩;have CU:=(Sx.On.ch ((az1 hm2 Aw)) hC4 (by omega));refine azp S (aft (S.lu 1) hk4 (lQ 256).2.2 (lQ 256).2.1) fun u QC S=>azo S (DL (S.lu 1) abH ((az1 hm4 QC)) (dw.below hg S.E)) ?_;rintro e u ⟨vb,rfl,hvb,E30⟩;refine⟨_,rfl,E30,fun S=>?_⟩;have hold:=fun p hp=>(S.own p hp).1.1;have lM:=S.E.size;have hrw:=aAj ((az1 hm4 (Ext.trans' QC E30)));refine azo S (ML nH (by rw[hk4]; exact ahN 256) (rowB hvb) abH (by decide) hrw (dw.below hg S.E)) ?_;rintro e u ⟨bu,G,rfl,hbu,hXG,hmG,abE,hkG,E32⟩;refine⟨_,rfl,E32,fun S=>?_⟩;have S:=S.adopt (A:=G.cells) hXG (by omega) (fun p hp=>by have:=hold p hp; omega) (fun m hm=>by cases hm);refine adr S 17 [61,62,65,66,69,71,72,73,76,77,80,81,84,85] [] fun S=>azl S fun S=>Sx.zZ S (some 70) (Ci (S.lu 2) abH ((az1 hm4 (Ext.trans' QC (Ext.trans' E30 E32))))) ?_;rintro e u ⟨⟨qw,qh,qb,qa,qc,ql⟩,rfl,hqc,hqo,hqk,hql,Fq⟩;rw[hk4]at hqk;obtain rfl:qb=⟨255,0,0,255⟩:=(azT bD.bg hqk).trans ahP;refine⟨_,rfl,Fq,fun ac S=>?_⟩;refine Sx.UG S fun S=>adr S 16 [61,62,65,66,69,71,72,73,76,77,80,81,84,85] [] fun S=>azu S (fun S=>?_);have hmG:=((az1 hmG Fq));rw[hk4]at hkG;have S:=S.fl;refine Sx.zd2 S Tryz.f6 17 (fun S iz=>?_);refine ap4 (St.kp (S.sN (l':=[(1,.q b2 0),(6,.q b20 0),(12,.q bu 0)]) (Az:=[(bu,G.cells),(b20,bn.cells (UJ c)),(bh,H4.cells),(b2,c.cells)])) (.cons_cons _ (.cons_cons _ (.cons _ (.cons_cons _ .slnil))))) hg hbu abE hmG (hkG) hpg.2.2.2 (fun ac u G4 avj S=>?_);refine Sx.zdF S 22 fun S=>azu S fun S=>azp S (aft (S.lu 0) avj rfl (afy c)) fun u UA S=>adr S 12 [117,118] [] fun S=>azl S fun S=>Sx.zZ S (some 121) (afu (dw.below hg S.E)) ?_;rintro e u ⟨rfl,KQ⟩;refine⟨_,rfl,KQ,fun ac S=>?_⟩;refine Sx.UG S fun S=>adr S 2 [117,118] [] fun S=>ay9 S (.bool true) (fun S=>?_);exact⟨rfl,S.E⟩
end
end Go.Proofs.YtodpgjjgaddkeaaGreatDoor
