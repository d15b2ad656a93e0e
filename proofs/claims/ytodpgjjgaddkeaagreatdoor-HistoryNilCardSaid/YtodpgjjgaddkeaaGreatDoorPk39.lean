/- Package scene: removals and backgrounds alone. The laws' -/
import Derived.Test.YtodpgjjgaddkeaaGreatDoorPk38
import Derived.WideShapes
set_option maxHeartbeats 3200000
set_option maxRecDepth 100000
set_option linter.unusedVariables false
set_option linter.unusedSimpArgs false
namespace Go.Proofs.YtodpgjjgaddkeaaGreatDoor
open _root_.Go.Proofs.Tryz
section
open Go.RowKit
variable{α:Type}{K:Nat}
theorem MH{s:bD}{e:dw}(hS:e.kind=2∨e.kind=5):Oa s e=fB s e:=by unfold Oa fB; rw[show mD s.ns e=mg s.ns e by unfold mD; rw[azu (show ¬e.kind=3 by omega)]]; try rfl
theorem afj{s:aI}{e:bn}{code:Int}{m t:aI}(hS:e.kind=2∨e.kind=5)(hv:s.key.valid=true)(hn:e.key.named=true)(hk:keys m.ns=keys s.ns)(hr:aeX m e code t)(hc:code≠0):fB s.key e.key=(.zero,code):=by
 rw[←MH (show e.key.kind=2∨e.key.kind=5 from hS)];unfold Oa;rw[azu (by simp[hv]),azu (by simp[hn])];have h1:=hr.1;rw[hk]at h1;rw[show s.key.ns=keys s.ns from rfl];cases hp:mD (keys s.ns) e.key with
 | error n=>rw[hp]at h1; rw[show code=n from h1]
 | ok l=>rw[hp]at h1; exact absurd h1.1 hc
theorem Y4{s:aI}{e:bn}{m t:aI}(hS:e.kind=2∨e.kind=5)(hv:s.key.valid=true)(hn:e.key.named=true)(hk:keys m.ns=keys s.ns)(h3:m.w=s.w∧m.h=s.h∧m.bg=s.bg)(hr:aeX m e 0 t)(hne:∀n,mD (keys s.ns) e.key = .error n→n≠0):fB s.key e.key=if t.key.chk.1=0 then (t.key,0)else (.zero,t.key.chk.1):=by
 rw[←MH (show e.key.kind=2∨e.key.kind=5 from hS)];unfold Oa;rw[azu (by simp[hv]),azu (by simp[hn])];have h1:=hr.1;rw[hk]at h1;rw[show s.key.ns=keys s.ns from rfl];cases hp:mD (keys s.ns) e.key with
 | error n=>rw[hp]at h1; exact absurd h1.symm (hne n hp)
 | ok l =>
  rw[hp]at h1;have ht:s.key.with' e.key l=t.key:=by
   unfold bD.with' aI.key;rw[hr.2.1,hr.2.2,h1.2.2,←h1.2.1,h3.1,h3.2.1,h3.2.2];rfl
  simp only[ht]
theorem TV{w0 w:World}{b:Nat}{s:aI}{e:bn}(hE:Ext w0 w)(hx:Bx w b s.cells.toArray)(hb:w0.heap.size≤b)(ho:s.own w0.heap.size w)(hob:s.s.ownBlock≠some b)(hnb:Sx.On (fun i=>w0.heap.size≤i∧i≠b∧s.s.ownBlock≠some i) (fun W=>∀n∈s.ns,n.pK w0.heap.size W) w)(hf:∀n∈s.ns,n.zQ K)(he:iF K w0 e)(hel:e.node.lim)(hS:e.kind=2∨e.kind=5)(hn:s.ns.length≤1000) :
  Calls prog 99 #[.q b 0,e.v] w fun r w'=>∃(code:Int) (t:aI),r = .returned (.i code)∧Ext w0 w'∧Bx w' b t.cells.toArray∧fU w0.heap.size t.s t.ns w'∧(∀n∈t.ns,n.zQ K)∧aeX s e code t:=by
 skip;refine azr func99 ntmps99 hE hx hb (fun S=>?_);obtain⟨a,cap,es⟩:∃a c,s.s = .slice a s.ns.length c:=⟨_,_,rfl⟩;have hor:=ho.row;rw[es]at hor hob hnb;have R:=ahu S hor hob;have hnd:=ae2 (A:=s.cells) (m:=s.ns.length) (xs:=s.ns.flatMap aj.cells) hnb;refine ay6 S e.cells (fun u b2 E3 hb4 S=>?_);obtain⟨R,Y6⟩:=R.bP S (aAB E3 hb4);have hrow:=(az8 (Sx.kS (f:=aj.cells) (L:=s.ns) (fun _=>rfl) (R.own _ azJ) rfl rfl));refine azi S 7 [.mem 1 6,.re 15 s.s (.slice a s.ns.length cap),.mem 0 1] [(_,_,true,.i (wF (keys s.ns) e.id))] [(18,.i (wF (keys s.ns) e.id))] ⟨fun u hC g=>VU (id:=e.id) (hrow.below hC),trivial⟩ (hk:=⟨es,trivial⟩) fun u E7 S=>adr S 5 [] [.mem 0 0] fun S=>ay0 S ((e.kind)==1) (fun gU S=>?_) (fun gU S=>?_)
 ·exact absurd hS (by simp only[azI]at gU; omega)
 refine ay0 S ((e.kind)==2) (fun tK S=>?_) (fun tK S=>?_)
 ·refine ay0 S ((e.kind)==2) (fun xW S=>?_) (fun xW S=>?_)
  ·refine ay0 S (decide ((wF (keys s.ns) e.id)<0)) (fun hc18 S=>?_) (fun hc18 S=>?_)
   ·have hfk:=((Ei s.ns e.id).resolve_right (fun⟨i,h,_⟩=>by have:=azN hc18; omega)).2;obtain⟨R,Y20⟩:=R.bP S (azV E7);refine apB S (.i 8) (fun S=>?_);exact⟨8,s,rfl,S.E,S.bx 1,(es▸az1 (Sx.jV (fun _=>rfl) (R.own _ azJ) rfl rfl) (Sx.Ow.dep (aAR hnd (azP Y6 Y20)))),hf,⟨by rw[show mD (keys s.ns) e.key = .error 8 by unfold mD mg; rw[azu (show ¬e.key.kind=3 from fun h=>by have:=(show(e.key.kind=2)from by simpa[bn.key]using tK); omega),azu (show ¬(e.key.kind=1)from by simpa[bn.key]using gU),azv (show(e.key.kind=2)from by simpa[bn.key]using tK),show mZ (keys s.ns) e.key.id=none from hfk]],rfl,rfl⟩⟩
   obtain⟨i,hfi,hfk,hi⟩:=(Ei s.ns e.id).resolve_left (fun h=>by have:=azR hc18; omega);have hek:=agB (l:=keys s.ns) (i:=i) (by simpa using hi);rw[aAQ]at hek;obtain⟨R,Y22⟩:=R.bP S (azV E7);obtain⟨gb,rfl,hgn⟩:=aeZ R (by omega);have hrw:=alA R rfl;have au6:=alz (aAR hnd (azP Y6 Y22));have R:=Sx.Rw.pop R;have hrow:=(az8 hrw).1;have q23:=S.E.size;have q24:=R.lt;obtain⟨e9,he9⟩:∃z,z=yj (keys s.ns) i:=⟨_,rfl⟩;rw[←he9]at hek;have hro:=hrw;refine Sx.zd2 S Tryz.f99 11 (fun S iz=>?_);refine Sx.D5 S 16 [(67,fun v w1=>∃v1,v = .tuple #[v1,.slice (some ⟨gb,0+i*47,none⟩) (e9-i) (e9-i)]∧Sx.On (fun j=>(w0.heap.size≤j∧j∉Sx.Ob [(b2,e.cells),(b,s.cells)] [])∨u.heap.size≤j) (Sx.nX 38 47 aj.cells w0.heap.size v1 (s.ns.take i++s.ns.drop e9)) w1),(55,fun v w1=>∃v1,v = .tuple #[v1,.slice (some ⟨gb,0+i*47,none⟩) (e9-i) (e9-i)]∧Sx.On (fun j=>(w0.heap.size≤j∧j∉Sx.Ob [(b2,e.cells),(b,s.cells)] [])∨u.heap.size≤j) (Sx.nX 38 47 aj.cells w0.heap.size v1 (s.ns.take i++s.ns.drop e9)) w1),(68,fun v w1=>Sx.On (fun j=>(w0.heap.size≤j∧j∉Sx.Ob [(b2,e.cells),(b,s.cells)] [])∨u.heap.size≤j) (Sx.nX 38 47 aj.cells w0.heap.size v (s.ns.take i++s.ns.drop e9)) w1),(69,fun v w1=>v = .slice (some ⟨gb,0+i*47,none⟩) (e9-i) (e9-i)),(6,fun v w1=>Sx.On (fun j=>(w0.heap.size≤j∧j∉Sx.Ob [(b2,e.cells),(b,s.cells)] [])∨u.heap.size≤j) (Sx.nX 38 47 aj.cells w0.heap.size v (s.ns.take i++s.ns.drop e9)) w1)] (fun r=>[.mem 1 6,.re 59 s.s (.slice (some ⟨gb,0,none⟩) s.ns.length cap),.mem 1 6,.re 64 s.s (.slice (some ⟨gb,0,none⟩) s.ns.length cap),.hand 55 [],.hand 68 [],.hand 69 [],.hand 6 []]) (fun x=>[.i e9,x 67,x 55,x 68,x 69,x 6]) (fun x=>[(_,_,true,.i e9,66),(_,_,true,x 67,67)]) [[],[]] (fun x=>[(6,x 6),(69,x 69)]) ⟨fun _ _ _ k h=>by obtain⟨v1,e,h⟩:=h; exact⟨v1,e,h.ext k⟩,fun _ _ _ k h=>by obtain⟨v1,e,h⟩:=h; exact⟨v1,e,h.ext k⟩,fun _ _ _ k h=>h.ext k,fun _ _ _ _ h=>h,fun _ _ _ k h=>h.ext k,trivial⟩ (fun x=>⟨by intro u hC g F; exact(aaA (hrow.below hC) hi hfi he9).mono fun e w2 h=>⟨_,h.1,rfl,h.2⟩,by intro u hC g F; exact(RQ (hrow.below hC) (f:=i) (t:=e9) (by omega) (by omega) (by omega) hfi).mono fun e w2 h=>by obtain⟨v1,rfl,hx,hb⟩:=h; exact⟨_,rfl,⟨v1,by rw[ae0 (show e9≠i by omega)],(hx w0.heap.size _ (Ext.trans' S.E hC).size (azT hro hC)).mono fun j hj=>hj.imp_right (azQ hC.size)⟩,hb⟩,trivial⟩) (fun ac u x DJ F S=>?_) (hk:=fun r=>⟨es,es,trivial,trivial,trivial,trivial,trivial⟩) (hl:=[(12,[67]),(13,[55]),(14,[55]),(15,[68])]) (hH:=fun x r=>⟨fun o ho ρ u hs hE hρ hV F=>by obtain⟨F67,-⟩:=F; obtain⟨v1,e1,h1⟩:=F67; exact Sx.kZ ho hs [(67,.tuple #[v1,.slice (some ⟨gb,0+i*47,none⟩) (e9-i) (e9-i)])] (azC ((hρ 67 (by decide) rfl).trans e1)) (.tuple #[v1,.slice (some ⟨gb,0+i*47,none⟩) (e9-i) (e9-i)]) (Sx.nZ ho rfl rfl Ext.rfl' ⟨v1,rfl,h1⟩),fun o ho ρ u hs hE hρ hV F=>by obtain⟨F55,-⟩:=F; obtain⟨v1,e1,h1⟩:=F55; exact Sx.kZ ho hs [(55,.tuple #[v1,.slice (some ⟨gb,0+i*47,none⟩) (e9-i) (e9-i)])] (azC ((hρ 55 (by decide) rfl).trans e1)) (v1) (Sx.nZ ho rfl rfl Ext.rfl' h1),fun o ho ρ u hs hE hρ hV F=>by obtain⟨F55,-⟩:=F; obtain⟨v1,e1,h1⟩:=F55; exact Sx.kZ ho hs [(55,.tuple #[v1,.slice (some ⟨gb,0+i*47,none⟩) (e9-i) (e9-i)])] (azC ((hρ 55 (by decide) rfl).trans e1)) (.slice (some ⟨gb,0+i*47,none⟩) (e9-i) (e9-i)) (Sx.nZ ho rfl rfl Ext.rfl' rfl),fun o ho ρ u hs hE hρ hV F=>by obtain⟨F68,-⟩:=F; exact Sx.kZ ho hs [(68,x 68)] (azC (hρ 68 (by decide) rfl)) (x 68) (Sx.nZ ho rfl rfl Ext.rfl' F68),trivial⟩);refine Sx.ZY S (fun S=>?_);obtain⟨F67,F55,F68,F69,F6,-⟩:=F;clear F67;clear F55;clear F68;rw[F69]at S;try rw[F69]
   obtain⟨R,Y26⟩:=R.bP S (azV DJ);have hcut:Sx.Ow w0.heap.size (Sx.Ob [(b2,e.cells),(b,s.cells)] []) (Sx.nX 38 47 aj.cells w0.heap.size (x 6) (s.ns.take i++s.ns.drop e9)) u:=F6.mono fun j hj=>hj.elim id fun h=>⟨azQ q23 h,fun hm=>by have:=q24 j hm; omega⟩;obtain⟨a7,c7,e7⟩:=(az8 hcut).1.shape;rw[e7]at S hcut;try rw[e7]
   refine adr S 4 [] [.mem 0 0] fun S=>ay0 S ((e.kind)==2) (fun hc29 S=>?_) (fun hc29 S=>?_)
   ·refine Sx.RS S 1 (off:=6) (v := .slice a7 ((s.ns.take i++s.ns.drop e9).length) c7) rfl (fun u C31 S=>?_);obtain⟨R,Y33⟩:=R.bP S (Sx.Stp.Oe C31);refine apB S (.i 0) (fun S=>?_);exact⟨0,⟨s.w,s.h,s.bg,a7,c7,s.ns.take i++s.ns.drop e9⟩,rfl,S.E,S.bx 1,az1 (Sx.Ow.dep (aAR hcut Y33)) (aAs (Sx.Ow.dep (aAR au6 (azP Y26 Y33))) fun _ h=>YV h i e9),YV hf i e9,⟨by rw[show mD (keys s.ns) e.key = .ok (Rt (keys s.ns) i e9) by unfold mD mg; rw[azu (show ¬e.key.kind=3 from fun h=>by have:=(show(e.key.kind=2)from by simpa[bn.key]using tK); omega),azu (show ¬(e.key.kind=1)from by simpa[bn.key]using gU),azv (show(e.key.kind=2)from by simpa[bn.key]using tK),show mZ (keys s.ns) e.key.id=some i from hfk]; rw[he9]]; exact⟨rfl,ae1 ..,by rw[azu (fun h=>by have:=(show(e.key.kind=2)from by simpa[bn.key]using tK); simp only[bn.key]at this; omega)]⟩,rfl,rfl⟩⟩
   rw[tK]at hc29; cases hc29
  rw[tK]at xW; cases xW
 refine ay0 S ((e.kind)==3) (fun hc34 S=>?_) (fun hc34 S=>?_)
 ·exact absurd hS (by simp only[azI]at hc34; omega)
 refine ay0 S ((e.kind)==4) (fun qc S=>?_) (fun qc S=>?_)
 ·exact absurd hS (by simp only[azI]at qc; omega)
 refine ay0 S ((e.kind)==5) (fun hc38 S=>?_) (fun hc38 S=>?_)
 ·refine adr S 5 [] [.mem 0 51] fun S=>azc S 1 (off:=2) (cs:=e.color.cells) rfl (fun u C39 S=>?_);obtain⟨R,Y41⟩:=R.bP S (azP (azV E7) (Sx.Stp.Oe C39));refine apB S (.i 0) (fun S=>?_);exact⟨0,⟨s.w,s.h,e.color,s.nsa,s.nsc,s.ns⟩,rfl,S.E,S.bx 1,(es▸az1 (Sx.jV (fun _=>rfl) (R.own _ azJ) rfl rfl) (Sx.Ow.dep (aAR hnd (azP Y6 Y41))):fU _ s.s _ _),hf,⟨by rw[show mD (keys s.ns) e.key = .ok (keys s.ns) by unfold mD mg; rw[azu (show ¬(e.key.kind=3)from by simpa[bn.key]using hc34),azu (show ¬(e.key.kind=1)from by simpa[bn.key]using gU),azu (show ¬(e.key.kind=2)from by simpa[bn.key]using tK),azu (show ¬(e.key.kind=3)from by simpa[bn.key]using hc34),azu (show ¬(e.key.kind=4)from by simpa[bn.key]using qc)]]; exact⟨rfl,rfl,by rw[azv (by simpa using hc38)]⟩,rfl,rfl⟩⟩
 exact absurd hS (by simp only[azW]at tK hc38; omega)
theorem PD{w:World}{s:aI}{e:bn}(h:dI K w s)(hg:dO w)(he:iF K w e)(hlim:∀n∈s.ns,n.lim)(hel:e.node.lim)(hS:e.kind=2∨e.kind=5) :
  Calls prog 62 #[s.v,e.v] w fun r w'=>∃(t:aI) (code:Int),r = .returned (.tuple #[t.v,.i code])∧Xq w.heap.size K s e code t w'∧Ext w w':=by
 skip;refine ay3 func62 ntmps62 fun S=>ay2 S fun u b2 E3 hb4 S=>ay2 S fun u b5 E6 hb7 S=>ay2 S fun u b8 E9 y8 S=>adr S 2 [] [.mem 2 0] fun S=>azd S (wH (h.below S.E) (hg.below S.E)) fun u Es S=>ay0 S (!s.key.valid) (fun tK S=>?_) (fun tK S=>?_)
 ·refine ay4 S 0 rfl fun u C16 S=>Sx.IX S 0 rfl (v := .agg (aI.cells .zero).toArray) (u := .i 18) (fun S=>⟨.zero,_,rfl,rD (by unfold fB; rw[azv (by simpa using tK)]),S.E⟩)
 refine adr S 1 [] [.mem 1 0] fun S=>azd S (abl (he.below S.E)) fun u Kv S=>ay0 S (!e.key.named) (fun qg S=>?_) (fun qg S=>?_)
 ·refine ay4 S 0 rfl fun u C22 S=>Sx.IX S 0 rfl (v := .agg (aI.cells .zero).toArray) (u := .i 2) (fun S=>⟨.zero,_,rfl,rD (by unfold fB; rw[azu (by have:=tK; simp at this; simp[this]),azv (by simpa using qg)]),S.E⟩)
 have hE0:=S.E;have afk:=(S.bx 0).1;have apS:=(S.bx 1).1;have ajc:=(S.bx 2).1;obtain⟨wc,hwc⟩:∃z:World,z=u:=⟨_,rfl⟩;rw[←hwc]at hE0 afk apS ajc;have hcw:Ext wc u:=hwc▸Ext.rfl';have hv:s.key.valid=true:=by simpa using tK
 have hno:e.key.named=true:=by simpa using qg
 have hsl:s.ns.length≤64:=by have:=(bD.ni.1 hv).2.1; rwa [show s.key.ns.length=s.ns.length from aAQ ..]at this
 have hwl:=(hcw).size;refine adr S 1 [] [.mem 2 0] fun S=>aze S (qX (h.below S.E) hlim (by omega)) ?_;rintro e u ⟨m,rfl,hmo,hms,hmw,hmh,hmb,Cm⟩;refine⟨_,rfl,Cm,fun S=>?_⟩;have hwz:=((Ext.trans' hcw Cm)).size;refine ay2 S (fun u b25 Un MS S=>?_);have hge:wc.heap.size≤b25:=by omega
 refine ay4 S 0 rfl (fun u PY S=>?_);have yC:=ay5 (Ext.trans' Cm Un) PY (by have:=Cm.size; omega);have hmw:=And.intro hmw (And.intro hmh hmb);have alQ:=(own_base hwl (abm hmo Un PY (.inr (aB0 MS.symm))));have hml:m.ns.length=s.ns.length:=by have:=azH List.length hms; simpa using this
 refine adr S 1 [] [.mem 2 0] fun S=>ay7 S fun S=>Sx.KT S (some 19) hE0 ((Ext.trans' hcw yC)) (fun p hp=>by rcases azG.1 hp with rfl | hp; exact afk; rcases azG.1 hp with rfl | hp; exact apS; rcases azG.1 hp with rfl | hp; exact ajc; cases hp) (TV (K:=K) (w0:=wc) ((Ext.trans' hcw yC)) (S.kG 0) hge alQ.1 alQ.2.1 alQ.2.2 (fun n hn=>⟨fits_all hms (fun n hn=>(h.2.2.2 n hn).2) n hn,zO hms hlim n hn⟩) (he.below hE0) hel hS (by omega)) ?_;rintro r u ⟨code,t,rfl,hE2,hX,hcp,hft,hres⟩;refine⟨_,t.cells,rfl,hE2,hX,fun ac S=>?_⟩;refine azs S (fun S=>?_);have htw:I64 t.w∧I64 t.h:=by rw[hres.2.1,hres.2.2,hmw.1,hmw.2.1]; exact⟨h.1,h.2.1⟩
 have hkm:keys m.ns=keys s.ns:=zL hms;refine ay0 S ((code)==0) (fun TL S=>?_) (fun TL S=>?_)
 ·refine adr S 1 [] [.mem 0 0] fun S=>azd S (DY (K:=K) (s:=t) ⟨htw.1,htw.2,fU.ok (hcp) fun n hn=>(hft n hn).1⟩ (hg.below S.E)) fun u E34 S=>ay0 S ((t.key.chk.1) != 0) (fun EF S=>?_) (fun EF S=>?_)
  ·refine ay4 S 1 rfl (fun u C39 S=>?_);have S:=S.fl;have GI:=aU.ch (azT hcp E34) C39 afk;have hc0:code=0:=by simpa using TL
   have hap:=Y4 hS hv hno hkm hmw (hc0▸hres) fun n h=>I4 h;refine Sx.IX S 1 rfl (v := .agg (aI.cells .zero).toArray) (u := .i t.key.chk.1) (fun S=>⟨.zero,_,rfl,rD (by rw[hap,azu (by simpa using EF)]),S.E⟩)
  refine adr S 1 [] [.mem 0 0] fun S=>ay4 S 1 rfl (fun u C42 S=>?_);have vW:=aU.ch (azT hcp E34) C42 afk;have hc0:code=0:=by simpa using TL
  have hap:=Y4 hS hv hno hkm hmw (hc0▸hres) fun n h=>I4 h;refine Sx.IX S 1 rfl (v := .agg (aI.cells t).toArray) (u := .i 0) (fun S=>⟨t,_,rfl,⟨by rw[hap,azv (by simpa using EF)],fU.le (vW) hE0.size,⟨htw.1,htw.2,fU.ok (vW) fun n hn=>(hft n hn).1⟩,hft⟩,S.E⟩)
 have hne:((code) != 0)=true:=by have:=TL; simpa using this
 refine ay0 S ((code) != 0) (fun VH S=>?_) (fun VH S=>?_)
 ·refine ay4 S 1 rfl (fun u C48 S=>?_);have RG:=aU.ch hcp C48 afk;refine Sx.IX S 1 rfl (v := .agg (aI.cells .zero).toArray) (u := .i code) (fun S=>⟨.zero,_,rfl,rD (afj hS hv hno hkm hres (by simpa using hne)),S.E⟩)
 rw[hne]at VH; cases VH
end
section
open Go.RowKit En
variable{α:Type}{K:Nat}
def TW:aQ:=⟨1,1,0,qI,[],0,255,1,false,false,[],0,[],aS.bare.key,[],dA.bare.key,0⟩
def wU(w:World)(m:aI):Prop:=dI 20 w m∧(∀n∈m.ns,n.lim)∧m.key=Ae TW .none∧Pg TW
theorem wU.below{w w':World}{m:aI}(h:wU w m)(hE:Ext w w'):wU w' m:=⟨h.1.below hE,h.2⟩
theorem ahD{w:World}{t:bF}{b:Nat}(ht:TI w t)(hx:Bx w b (uS 1 t).cells.toArray):wU w ⟨2,1,.none,some ⟨b,0,none⟩,1,[uS 1 t]⟩:=by
 have hd:TU w 1 1 (uS 1 t) := .inl ⟨rfl,t,ht,rfl⟩;have hk:(uS 1 t).key=TW:=by unfold aj.key TW uS; rw[ht.2.q NU]; rfl
 have hc:(uS 1 t).checkN=0:=by have:=hd.check; simpa using this
 refine⟨⟨(show I64 2 by decide),(show I64 1 by decide),Sx.Fg (f:=aj.cells) [uS 1 t] (fun _=>rfl) (by simpa using hx) (by show 1≤maxLen; decide),fun n hn=>by rw[az0.1 hn]; exact hd.ok (by decide) (by decide) (by decide)⟩,fun n hn=>?_,by unfold aI.key Ae; rw[←hk]; rfl,⟨by rw[←hk,lq]; exact hc,rfl,rfl,rfl⟩⟩;rw[az0.1 hn];exact⟨(ht.fit (azx 1)).up (by decide),azB _,azB _,azB _,(fun p hp=>by cases hp),azB _,azB _,(fun p hp=>by cases hp),azB _⟩
def EdS(k:dw):Prop:=k.kind=2∨k.kind=5
theorem Du:ApC EdS:=fun h hg he hl hel hS=>PD h hg he hl hel hS
theorem BO{f:FuncId}{args:Array Value}{w:World}{v v':Value}(h:Calls prog f args w fun e w'=>e = .returned v∧Ext w w')(hv:v=v'):Calls prog f args w fun e w'=>e = .returned v'∧Ext w w':=hv▸h
theorem apT{w:World}{b a n:Nat}{H:HD}{h:HK}(hx:Bx w b H.cells.toArray)(hk:H.key=h)(ha:h.k=a)(hn:h.es.length=n) :
  Calls prog 9 #[.q b 0] w fun e w'=>e = .returned (.tuple #[.i a,.i n])∧Ext w w':=by
 subst hk ha hn;exact BO (aeV (sv := .slice H.sa H.ss.length H.sc) (ea:=H.ea) (ec:=H.ec) hx) (by simp[HD.key])
theorem alR{w:World}{m:aI}{v:Value}(h:∃t:aI,v=t.v∧wU w t)(hm:dI 20 w m)(hk:m.key=Ae TW .none) :
  Calls prog 16 #[m.v,v] w fun e w'=>e = .returned (.bool true)∧Ext w w':=by
 obtain⟨t,rfl,ht⟩:=h;exact BO (wS hm ht.1) (by rw[hk,ht.2.2.1]; simp)
theorem afl(w:World){k i:Int}{c:bG}(hk:I64 k)(hi:I64 i)(hK:1≤K∧K≤10000):iF K w ⟨k,i,0,0,bK,c⟩:=⟨hk,hi,(show I64 0 by decide),(show I64 0 by decide),gI w hK.1 hK.2⟩
theorem TY:bK.lim:=⟨(gI (K:=20) default (by decide) (by decide)).2.1.up (by decide),azB _,azB _,azB _,(fun p hp=>by cases hp),azB _,azB _,(fun p hp=>by cases hp),azB _⟩
theorem HK.afm{h:HK}{e:dw}{t:bD}{c:Int}(hk:h.k≠256)(ha:fB h.now e=(t,c)):h.app e=if c=0 then (⟨h.ss.take (h.k+1)++[t],h.es.take h.k++[e],h.k+1⟩,0)else (h,c):=by
 unfold HK.app HK.put;rw[azu hk,ha]
theorem alS{n:aQ}(h:Pg n)(c:bG):HK.app ⟨[Ae n .none],[],0⟩ (I8 c)=(⟨[Ae n .none,Ae n c],[I8 c],1⟩,0):=by
 rw[HK.afm (h:=⟨[Ae n .none],[],0⟩) (t:=Ae n c) (c:=0) (by show(0:Nat)≠256; decide) (aby (s:=Ae n .none) (h.valid _) c),azv rfl]; rfl
theorem apU{n:aQ}(h:Pg n)(c:bG)(es:List dw):HK.app ⟨[Ae n .none,Ae n c],es,1⟩ (.remove 9)=(⟨[Ae n .none,Ae n c],es,1⟩,8):=by
 rw[HK.afm (h:=⟨[Ae n .none,Ae n c],es,1⟩) (t := .zero) (c:=8) (by show(1:Nat)≠256; decide) (h.rm9 c),azu (by decide)]
theorem Ua(w:World) :
  Calls prog 26 #[] w fun e w'=>∃m:aI,e = .returned m.v∧wU w' m∧Ext w w':=by
 skip;refine ay3 func26 ntmps26 fun S=>ay6 S [.i 0,.i 0,.u 0,.u 0,.u 0,.u 0,.sn] fun u b2 E3 hb4 S=>aze S (EO _) ?_;rintro e u ⟨t,rfl,ht,E6⟩;refine⟨_,rfl,E6,fun S=>?_⟩;refine ay6 S (Sx.L [.i 1,.i 1,.i 0]++t.cells++Sx.L [.sn,.i 0,.u 255,.i 1,.z,.z,.sn,.i 0,.sn,.i 0,.i 0,.i 0,.i 0,.sn,.i 0,.sn,.i 0,.i 0,.sn,.i 0]) (fun u b7 E8 hb9 S=>?_);have Ut:=S.bx 1;refine azc S 1 (off:=0) (cs:=[.i 2,.i 1,.u 0,.u 0,.u 0,.u 0,.slice (some ⟨b7,0,none⟩) 1 1]) rfl (fun u C10 S=>?_);have AV:=TI.dX (ht.below E8) C10 Ut;refine azf S 1 rfl (v:=aI.v ⟨2,1,.none,some ⟨b7,0,none⟩,1,[uS 1 t]⟩) (fun S=>?_);exact⟨_,rfl,ahD AV (S.kG 0),S.E⟩
theorem alT{base:Nat}{w:World}{m:aI}(hc:fU base m.s m.ns w)(ho:dI K w m)(hl:∀n∈m.ns,n.zQ K):Sx.aU base (fun W=>dI K W m∧∀n∈m.ns,n.lim) w:=
 aAs hc fun W h=>⟨⟨ho.1,ho.2.1,h.1.1,fun n hn=>⟨(h.2 n hn).1,(hl n hn).1⟩⟩,fun n hn=>(hl n hn).2⟩
theorem afn{w:World}(hg:dO w) :
  Calls prog 19 #[] w fun e w'=>e = .returned (.bool true)∧Ext w w':=by
 skip;refine ay3 func19 ntmps19 fun S=>aze S (Ua _) ?_;rintro e u ⟨p,rfl,hp,E3⟩;refine⟨_,rfl,E3,fun S=>?_⟩;have hold:=fun p hp=>(S.own p hp).1.1;have oN:=S.E.size;obtain⟨c0,hc0⟩:∃z:Nat,z=u.heap.size:=⟨_,rfl⟩;have hpg:=hp;refine aze S (Y2 hpg.1 (dO.below hg S.E) hpg.2.1 (by rw[hpg.2.2.1]; exact hpg.2.2.2.valid _)) ?_;rintro e u ⟨bh,H1,rfl,hcb,hX1,hm1,⟨hok1,hk1⟩,E4⟩;rw[←hc0]at hcb hm1 hold oN;rw[hpg.2.2.1]at hk1;refine⟨_,rfl,E4,fun S=>?_⟩;have S:=S.fl;have S:=S.adopt (A:=H1.cells) hX1 (by omega) (fun p hp=>by have:=hold p hp; omega) (fun m hm=>by cases hm);refine adr S 11 [25,26] [] fun S=>azg S fun S=>ay2 S fun u b8 E9 y8 S=>ay4 S 0 rfl (fun u XW S=>?_);have qE:=ay5 E9 XW;refine adr S 3 [] [.mem 0 0] (fun S=>?_);have S:=S.fl;refine aza S 1 rfl (Ad Du (show EdS _ from .inr rfl) S.E (S.bx 1) (S.old 1) hcb hok1 ((azT hm1 qE)) (e:=⟨5,0,0,0,bK,⟨255,0,0,255⟩⟩) (dO.below hg S.E) (afl _ (by decide) (by decide) (by decide)) TY) ?_;rintro e u ⟨H2,cd,rfl,hp2,hok2,hm2,hE2,hC2,hX2⟩;obtain⟨hk2,rfl⟩:=aBT (hp2.trans (show _=((⟨[Ae TW .none,Ae TW ⟨255,0,0,255⟩],[I8 ⟨255,0,0,255⟩],1⟩:HK),(0:Int))from by rw[hk1]; exact alS hpg.2.2.2 ⟨255,0,0,255⟩));refine⟨_,_,rfl,hE2,hC2,hX2,fun S=>?_⟩;have zH:=(Sx.On.ch ((azT hm1 qE)) hC2 (by omega));have S:=S.fl;refine aza S 1 rfl (Ad Du (show EdS _ from .inl rfl) S.E (S.bx 1) (S.old 1) hcb hok2 hm2 (e:=⟨2,9,0,0,bK,.none⟩) (dO.below hg S.E) (afl _ (by decide) (by decide) (by decide)) TY) ?_;rintro e u ⟨H3,cd,rfl,hp3,alP,hm3,hE3,hC3,hX3⟩;obtain⟨hk3,rfl⟩:=aBT (hp3.trans (show _=((⟨[Ae TW .none,Ae TW ⟨255,0,0,255⟩],[I8 ⟨255,0,0,255⟩],1⟩:HK),(8:Int))from by rw[hk2]; exact apU hpg.2.2.2 ⟨255,0,0,255⟩ _));refine⟨_,_,rfl,hE3,hC3,hX3,fun S=>?_⟩;have Eu:=(Sx.On.ch hm2 hC3 (by omega));have S:=S.fl;refine aza S 1 rfl (afa S.E (S.bx 1) (S.old 1) hcb alP hm3) ?_;rintro e u ⟨H4,cd,rfl,hp4,apV,hm4,hE4,hC4,hX4⟩;obtain⟨hk4,rfl⟩:=aBT (hp4.trans (show _=((⟨[Ae TW .none,Ae TW ⟨255,0,0,255⟩],[I8 ⟨255,0,0,255⟩],0⟩:HK),(0:Int))from by rw[hk3]; exact rfl));refine⟨_,_,rfl,hE4,hC4,hX4,fun S=>?_⟩;have Gu:=(Sx.On.ch hm3 hC4 (by omega));have zq0:=(S.bx 0).1;have zq1:=(S.bx 1).1;refine aze S (Pv (S.kG 1) apV hm4) ?_;rintro e u ⟨q,rfl,hqc,hqo,hqk,hql,xA⟩;rw[hk4]at hqk;have ZJ:=alT hqc hqo hql;refine⟨_,rfl,xA,fun S=>?_⟩;refine ay2 S fun u b21 NI ajC S=>ay4 S 0 rfl (fun u NJ S=>?_);have DJ:=ay5 (Ext.trans' xA NI) NJ (by have:=xA.size; omega);have Un:=ay5 NI NJ;have S:=S.fl;refine aza S 2 rfl (afa S.E (S.bx 2) (S.old 2) hcb apV ((azT hm4 DJ))) ?_;rintro e u ⟨H5,cd,rfl,hp5,au7,hm5,hE5,hC5,hX5⟩;obtain⟨hk5,rfl⟩:=aBT (hp5.trans (show _=((⟨[Ae TW .none,Ae TW ⟨255,0,0,255⟩],[I8 ⟨255,0,0,255⟩],0⟩:HK),(20:Int))from by rw[hk4]; exact rfl));refine⟨_,_,rfl,hE5,hC5,hX5,fun S=>?_⟩;have CQ:=(Sx.On.ch ((azT hm4 DJ)) hC5 (by omega));have sU:=(Sx.On.ch ((azT ZJ Un)) hC5 (by omega));have S:=S.fl;refine aza S 2 rfl (afb S.E (S.bx 2) (S.old 2) hcb au7 hm5) ?_;rintro e u ⟨H6,cd,rfl,hp6,au8,hm6,Ws,BA,Wu⟩;obtain⟨hk6,rfl⟩:=aBT (hp6.trans (show _=((⟨[Ae TW .none,Ae TW ⟨255,0,0,255⟩],[I8 ⟨255,0,0,255⟩],1⟩:HK),(0:Int))from by rw[hk5]; exact rfl));refine⟨_,_,rfl,Ws,BA,Wu,fun S=>?_⟩;have vV:=(Sx.On.ch hm5 BA (by omega));have AQ:=(Sx.On.ch sU BA (by omega));have S:=S.fl;refine aza S 2 rfl (afb S.E (S.bx 2) (S.old 2) hcb au8 hm6) ?_;rintro e u ⟨H7,cd,rfl,hp7,alU,hm7,hE7,hC7,hX7⟩;obtain⟨hk7,rfl⟩:=aBT (hp7.trans (show _=((⟨[Ae TW .none,Ae TW ⟨255,0,0,255⟩],[I8 ⟨255,0,0,255⟩],1⟩:HK),(20:Int))from by rw[hk6]; exact rfl));refine⟨_,_,rfl,hE7,hC7,hX7,fun S=>?_⟩;have CS:=(Sx.On.ch hm6 hC7 (by omega));have Bz:=(Sx.On.ch AQ hC7 (by omega));refine azd S (apT (S.kG 2) hk7 rfl rfl) fun u GV S=>aze S (MF (S.kG 2) alU ((azT hm7 GV)) (dO.below hg S.E)) ?_;rintro e u ⟨vb,rfl,hvb,Vj⟩;refine⟨_,rfl,Vj,fun S=>?_⟩;have hold:=fun p hp=>(S.own p hp).1.1;have oN:=S.E.size;have hrw:=az8 ((azT hm7 (Ext.trans' GV Vj)));refine aze S (abw Du (by rw[hk7]; intro e he; rw[az0.1 he]; exact .inr rfl) (rowB hvb) alU (by decide) hrw (dO.below hg S.E)) ?_;rintro e u ⟨bu,G,rfl,hbu,hXG,hmG,ahB,hkG,PX⟩;refine⟨_,rfl,PX,fun S=>?_⟩;have S:=S.adopt (A:=G.cells) hXG (by omega) (fun p hp=>by have:=hold p hp; omega) (fun m hm=>by cases hm);refine azg S (fun S=>?_);have hEu:=S.E;have hmH:=((azT hm7 (Ext.trans' GV (Ext.trans' Vj PX))));have hmG:=hmG;have hqs:=az8 ((azT Bz (Ext.trans' GV (Ext.trans' Vj PX))));rw[hk7]at hkG;have S:=S.fl;refine Sx.zd2 S Tryz.f19 17 (fun S iz=>?_);have S:=S.sub [(1,.q bh 0),(3,.q b8 0),(4,.i 0),(5,.i 8),(6,.i 0),(7,.q b21 0),(8,.i 20),(9,.i 0),(10,.i 20),(11,.i 1),(12,.i 1),(14,.i 0),(15,.q bu 0),(16,.i 0)];refine Sx.ael S 58 (Rel.is (.i 0)::Rel.is (.bool true)::Rel.is (.bool true)::Rel.is (.i 8)::Rel.is (.bool true)::Rel.is (.bool true)::Rel.is (.bool true)::Rel.is (.i 0)::Rel.is (.bool true)::Rel.is (.bool true)::Rel.is (.bool true)::Rel.is (q.v)::(fun v w1=>∃m:aI,v=m.v∧wU w1 m)::Rel.is (.bool true)::Rel.is (.bool true)::Rel.is (.bool true)::Rel.is (.i 20)::Rel.is (.bool true)::Rel.is (.bool true)::Rel.is (.bool true)::Rel.is (.i 0)::Rel.is (.bool true)::Rel.is (.bool true)::Rel.is (.bool true)::Rel.is (.i 20)::Rel.is (.bool true)::Rel.is (.bool true)::Rel.is (.bool true)::Rel.is (.q bh 0)::(fun v w1=>∃m:aI,v=m.v∧m.bg=⟨255,0,0,255⟩)::Rel.is (.agg #[.u 255,.u 0,.u 0,.u 255])::Rel.is (.agg #[.u 255,.u 0,.u 0,.u 255])::Rel.is (.bool true)::Rel.is (.bool true)::Rel.is (.bool true)::Rel.is (.i 1)::Rel.is (.bool true)::Rel.is (.bool true)::Rel.is (.bool true)::Rel.is (.i 1)::Rel.is (.bool true)::Rel.is (.bool true)::Rel.is (.bool true)::Rel.is (.i 0)::Rel.is (.bool true)::Rel.is (.bool true)::Rel.is (.bool true)::Rel.is (.i 0)::Rel.is (.bool true)::Rel.is (.bool true)::Rel.is (.bool true)::Rel.is (.q bu 0)::(fun v w1=>∃m:aI,v=m.v∧m.bg=⟨255,0,0,255⟩)::Rel.is (.agg #[.u 255,.u 0,.u 0,.u 255])::Rel.is (.agg #[.u 255,.u 0,.u 0,.u 255])::Rel.is (.bool true)::Rel.is (.bool true)::Rel.is (.bool true)::[]) 57 0 (.bool true) ⟨Rel.aG _,Rel.aG _,Rel.aG _,Rel.aG _,Rel.aG _,Rel.aG _,Rel.aG _,Rel.aG _,Rel.aG _,Rel.aG _,Rel.aG _,Rel.aG _,fun _ _ _ k h=>by obtain⟨m,e,h⟩:=h; exact⟨m,e,h.below k⟩,Rel.aG _,Rel.aG _,Rel.aG _,Rel.aG _,Rel.aG _,Rel.aG _,Rel.aG _,Rel.aG _,Rel.aG _,Rel.aG _,Rel.aG _,Rel.aG _,Rel.aG _,Rel.aG _,Rel.aG _,Rel.aG _,fun _ _ _ k h=>by obtain⟨m,e,h⟩:=h; exact⟨m,e,h⟩,Rel.aG _,Rel.aG _,Rel.aG _,Rel.aG _,Rel.aG _,Rel.aG _,Rel.aG _,Rel.aG _,Rel.aG _,Rel.aG _,Rel.aG _,Rel.aG _,Rel.aG _,Rel.aG _,Rel.aG _,Rel.aG _,Rel.aG _,Rel.aG _,Rel.aG _,Rel.aG _,Rel.aG _,Rel.aG _,fun _ _ _ k h=>by obtain⟨m,e,h⟩:=h; exact⟨m,e,h⟩,Rel.aG _,Rel.aG _,Rel.aG _,Rel.aG _,Rel.aG _,trivial⟩ ⟨fun ρ u1 hs ho hC hD=>ay9 hs [(4,.i 0)] ⟨(ho 4 rfl).trans (S.s.ev rfl),trivial⟩,
  fun ρ u1 hs ho hC hD=>ay9 hs [(63,.i 0)] ⟨hD.1 rfl,trivial⟩,
  fun ρ u1 hs ho hC hD=>ay9 hs [(64,.bool true)] ⟨hD.1 rfl,trivial⟩,
  fun ρ u1 hs ho hC hD=>⟨fun _=>ay9 hs [(5,.i 8)] ⟨(ho 5 rfl).trans (S.s.ev rfl),trivial⟩,fun hn=>absurd (hD.1 rfl) hn⟩,
  fun ρ u1 hs ho hC hD=>⟨fun _=>ay9 hs [(66,.i 8)] ⟨hD.1 rfl,trivial⟩,fun hn=>absurd (hD.2.1 rfl) hn⟩,
  fun ρ u1 hs ho hC hD=>ay9 hs [(65,.bool true),(67,.bool true)] ⟨hD.1 rfl,hD.2.1 rfl,trivial⟩,
  fun ρ u1 hs ho hC hD=>ay9 hs [(68,.bool true)] ⟨hD.1 rfl,trivial⟩,
  fun ρ u1 hs ho hC hD=>⟨fun _=>ay9 hs [(6,.i 0)] ⟨(ho 6 rfl).trans (S.s.ev rfl),trivial⟩,fun hn=>absurd (hD.1 rfl) hn⟩,
  fun ρ u1 hs ho hC hD=>⟨fun _=>ay9 hs [(70,.i 0)] ⟨hD.1 rfl,trivial⟩,fun hn=>absurd (hD.2.1 rfl) hn⟩,
  fun ρ u1 hs ho hC hD=>ay9 hs [(69,.bool true),(71,.bool true)] ⟨hD.1 rfl,hD.2.1 rfl,trivial⟩,
  fun ρ u1 hs ho hC hD=>ay9 hs [(72,.bool true)] ⟨hD.1 rfl,trivial⟩,
  fun ρ u1 hs ho hC hD=>⟨fun _=>Sx.dld ((ho 7 rfl).trans (S.s.ev rfl)) (((S.bx 1).ext hC).range 0 7 rfl),fun hn=>absurd (hD.1 rfl) hn⟩,
  fun ρ u1 hs ho hC hD=>⟨fun _=>Sx.dc (T:=fun v w1=>∃m:aI,v=m.v∧wU w1 m) hs [] trivial ((Ua _).mono fun e w2 ⟨m,h1,h2,h3⟩=>⟨_,h1,h3,m,rfl,h2⟩),fun hn=>absurd (hD.1 rfl) hn⟩,
  fun ρ u1 hs ho hC hD=>⟨fun _=>Sx.dc (T:=Rel.is (.bool true)) hs [(74,q.v),(75,ρ (.tmp 75))] ⟨hD.1 rfl,rfl,trivial⟩ ((alR (hD.2.1 rfl) (hqs.1.below hC) hqk).mono fun e w2 h=>⟨_,h.1,h.2,rfl⟩),fun hn=>absurd (hD.2.2.2.1 rfl) hn⟩,
  fun ρ u1 hs ho hC hD=>ay9 hs [(73,.bool true),(76,.bool true)] ⟨hD.1 rfl,hD.2.1 rfl,trivial⟩,
  fun ρ u1 hs ho hC hD=>ay9 hs [(77,.bool true)] ⟨hD.1 rfl,trivial⟩,
  fun ρ u1 hs ho hC hD=>⟨fun _=>ay9 hs [(8,.i 20)] ⟨(ho 8 rfl).trans (S.s.ev rfl),trivial⟩,fun hn=>absurd (hD.1 rfl) hn⟩,
  fun ρ u1 hs ho hC hD=>⟨fun _=>ay9 hs [(79,.i 20)] ⟨hD.1 rfl,trivial⟩,fun hn=>absurd (hD.2.1 rfl) hn⟩,
  fun ρ u1 hs ho hC hD=>ay9 hs [(78,.bool true),(80,.bool true)] ⟨hD.1 rfl,hD.2.1 rfl,trivial⟩,
  fun ρ u1 hs ho hC hD=>ay9 hs [(81,.bool true)] ⟨hD.1 rfl,trivial⟩,
  fun ρ u1 hs ho hC hD=>⟨fun _=>ay9 hs [(9,.i 0)] ⟨(ho 9 rfl).trans (S.s.ev rfl),trivial⟩,fun hn=>absurd (hD.1 rfl) hn⟩,
  fun ρ u1 hs ho hC hD=>⟨fun _=>ay9 hs [(83,.i 0)] ⟨hD.1 rfl,trivial⟩,fun hn=>absurd (hD.2.1 rfl) hn⟩,
  fun ρ u1 hs ho hC hD=>ay9 hs [(82,.bool true),(84,.bool true)] ⟨hD.1 rfl,hD.2.1 rfl,trivial⟩,
  fun ρ u1 hs ho hC hD=>ay9 hs [(85,.bool true)] ⟨hD.1 rfl,trivial⟩,
  fun ρ u1 hs ho hC hD=>⟨fun _=>ay9 hs [(10,.i 20)] ⟨(ho 10 rfl).trans (S.s.ev rfl),trivial⟩,fun hn=>absurd (hD.1 rfl) hn⟩,
  fun ρ u1 hs ho hC hD=>⟨fun _=>ay9 hs [(87,.i 20)] ⟨hD.1 rfl,trivial⟩,fun hn=>absurd (hD.2.1 rfl) hn⟩,
  fun ρ u1 hs ho hC hD=>ay9 hs [(86,.bool true),(88,.bool true)] ⟨hD.1 rfl,hD.2.1 rfl,trivial⟩,
  fun ρ u1 hs ho hC hD=>ay9 hs [(89,.bool true)] ⟨hD.1 rfl,trivial⟩,
  fun ρ u1 hs ho hC hD=>⟨fun _=>ay9 hs [(1,.q bh 0)] ⟨(ho 1 rfl).trans (S.s.ev rfl),trivial⟩,fun hn=>absurd (hD.1 rfl) hn⟩,
  fun ρ u1 hs ho hC hD=>⟨fun _=>Sx.dc (T:=fun v w1=>∃m:aI,v=m.v∧m.bg=⟨255,0,0,255⟩) hs [(91,.q bh 0)] ⟨hD.1 rfl,trivial⟩ ((Pv ((S.bx 3).ext hC) alU (azT hmH hC)).mono fun e w2 ⟨m,h1,h2,h3,h4,h5,h6⟩=>⟨_,h1,h6,m,rfl,by rw[hk7]at h4; exact azH bD.bg h4⟩),fun hn=>absurd (hD.2.1 rfl) hn⟩,
  fun ρ u1 hs ho hC hD=>⟨fun _=>(by obtain⟨⟨mw,mh,mb,ma,mc,ml⟩,em,hb⟩:=(hD.1 rfl); obtain rfl:mb=_:=hb; exact ay9 hs [(92,aI.v ⟨mw,mh,_,ma,mc,ml⟩)] ⟨em,trivial⟩),fun hn=>absurd (hD.2.1 rfl) hn⟩,
  fun ρ u1 hs ho hC hD=>⟨fun _=>Sx.dld ((ho 3 rfl).trans (S.s.ev rfl)) (((S.bx 2).ext hC).range 0 4 rfl),fun hn=>absurd (hD.1 rfl) hn⟩,
  fun ρ u1 hs ho hC hD=>⟨fun _=>ay9 hs [(93,.agg #[.u 255,.u 0,.u 0,.u 255]),(94,.agg #[.u 255,.u 0,.u 0,.u 255])] ⟨hD.1 rfl,hD.2.1 rfl,trivial⟩,fun hn=>absurd (hD.2.2.1 rfl) hn⟩,
  fun ρ u1 hs ho hC hD=>ay9 hs [(90,.bool true),(95,.bool true)] ⟨hD.1 rfl,hD.2.1 rfl,trivial⟩,
  fun ρ u1 hs ho hC hD=>ay9 hs [(96,.bool true)] ⟨hD.1 rfl,trivial⟩,
  fun ρ u1 hs ho hC hD=>⟨fun _=>ay9 hs [(11,.i 1)] ⟨(ho 11 rfl).trans (S.s.ev rfl),trivial⟩,fun hn=>absurd (hD.1 rfl) hn⟩,
  fun ρ u1 hs ho hC hD=>⟨fun _=>ay9 hs [(98,.i 1)] ⟨hD.1 rfl,trivial⟩,fun hn=>absurd (hD.2.1 rfl) hn⟩,
  fun ρ u1 hs ho hC hD=>ay9 hs [(97,.bool true),(99,.bool true)] ⟨hD.1 rfl,hD.2.1 rfl,trivial⟩,
  fun ρ u1 hs ho hC hD=>ay9 hs [(100,.bool true)] ⟨hD.1 rfl,trivial⟩,
  fun ρ u1 hs ho hC hD=>⟨fun _=>ay9 hs [(12,.i 1)] ⟨(ho 12 rfl).trans (S.s.ev rfl),trivial⟩,fun hn=>absurd (hD.1 rfl) hn⟩,
  fun ρ u1 hs ho hC hD=>⟨fun _=>ay9 hs [(102,.i 1)] ⟨hD.1 rfl,trivial⟩,fun hn=>absurd (hD.2.1 rfl) hn⟩,
  fun ρ u1 hs ho hC hD=>ay9 hs [(101,.bool true),(103,.bool true)] ⟨hD.1 rfl,hD.2.1 rfl,trivial⟩,
  fun ρ u1 hs ho hC hD=>ay9 hs [(104,.bool true)] ⟨hD.1 rfl,trivial⟩,
  fun ρ u1 hs ho hC hD=>⟨fun _=>ay9 hs [(14,.i 0)] ⟨(ho 14 rfl).trans (S.s.ev rfl),trivial⟩,fun hn=>absurd (hD.1 rfl) hn⟩,
  fun ρ u1 hs ho hC hD=>⟨fun _=>ay9 hs [(106,.i 0)] ⟨hD.1 rfl,trivial⟩,fun hn=>absurd (hD.2.1 rfl) hn⟩,
  fun ρ u1 hs ho hC hD=>ay9 hs [(105,.bool true),(107,.bool true)] ⟨hD.1 rfl,hD.2.1 rfl,trivial⟩,
  fun ρ u1 hs ho hC hD=>ay9 hs [(108,.bool true)] ⟨hD.1 rfl,trivial⟩,
  fun ρ u1 hs ho hC hD=>⟨fun _=>ay9 hs [(16,.i 0)] ⟨(ho 16 rfl).trans (S.s.ev rfl),trivial⟩,fun hn=>absurd (hD.1 rfl) hn⟩,
  fun ρ u1 hs ho hC hD=>⟨fun _=>ay9 hs [(110,.i 0)] ⟨hD.1 rfl,trivial⟩,fun hn=>absurd (hD.2.1 rfl) hn⟩,
  fun ρ u1 hs ho hC hD=>ay9 hs [(109,.bool true),(111,.bool true)] ⟨hD.1 rfl,hD.2.1 rfl,trivial⟩,
  fun ρ u1 hs ho hC hD=>ay9 hs [(112,.bool true)] ⟨hD.1 rfl,trivial⟩,
  fun ρ u1 hs ho hC hD=>⟨fun _=>ay9 hs [(15,.q bu 0)] ⟨(ho 15 rfl).trans (S.s.ev rfl),trivial⟩,fun hn=>absurd (hD.1 rfl) hn⟩,
  fun ρ u1 hs ho hC hD=>⟨fun _=>Sx.dc (T:=fun v w1=>∃m:aI,v=m.v∧m.bg=⟨255,0,0,255⟩) hs [(114,.q bu 0)] ⟨hD.1 rfl,trivial⟩ ((Pv ((S.bx 0).ext hC) ahB (azT hmG hC)).mono fun e w2 ⟨m,h1,h2,h3,h4,h5,h6⟩=>⟨_,h1,h6,m,rfl,by rw[hkG]at h4; exact azH bD.bg h4⟩),fun hn=>absurd (hD.2.1 rfl) hn⟩,
  fun ρ u1 hs ho hC hD=>⟨fun _=>(by obtain⟨⟨mw,mh,mb,ma,mc,ml⟩,em,hb⟩:=(hD.1 rfl); obtain rfl:mb=_:=hb; exact ay9 hs [(115,aI.v ⟨mw,mh,_,ma,mc,ml⟩)] ⟨em,trivial⟩),fun hn=>absurd (hD.2.1 rfl) hn⟩,
  fun ρ u1 hs ho hC hD=>⟨fun _=>Sx.dld ((ho 3 rfl).trans (S.s.ev rfl)) (((S.bx 2).ext hC).range 0 4 rfl),fun hn=>absurd (hD.1 rfl) hn⟩,
  fun ρ u1 hs ho hC hD=>⟨fun _=>ay9 hs [(116,.agg #[.u 255,.u 0,.u 0,.u 255]),(117,.agg #[.u 255,.u 0,.u 0,.u 255])] ⟨hD.1 rfl,hD.2.1 rfl,trivial⟩,fun hn=>absurd (hD.2.2.1 rfl) hn⟩,
  fun ρ u1 hs ho hC hD=>ay9 hs [(113,.bool true),(118,.bool true)] ⟨hD.1 rfl,hD.2.1 rfl,trivial⟩,
  fun ρ u1 hs ho hC hD=>ay9 hs [(119,.bool true)] ⟨hD.1 rfl,trivial⟩,trivial⟩ (fun ac u E45 S=>?_) rfl
 refine Sx.zdF S 58 fun S=>apB S (.bool true) (fun S=>?_);exact⟨rfl,S.E⟩
def edX(x:Nat→Value):List Value:=(List.range 55).map x
theorem acj{W:World}{base:Nat}{v:Value}(hv:Value.okWide prog W .any base 42 v):∃x:Nat→Value,v = .agg (edX x).toArray∧True:=by
 obtain⟨⟨l⟩,rfl,hsz⟩:=Go.WideShapes.okWide_struct underlying42 hv;have hl:l.length=55:=hsz.trans (by kernel_rfl);refine⟨fun i=>l.getD i undef,azH _ (azH _ (List.ext_getElem (by simp[edX,hl]) fun i h1 h2=>?_)),trivial⟩;simp[edX,h1]
def Ja(w:World)(p:Value):Prop:=∀w',Ext w w'→Calls prog 27 #[p] w' fun e w2=>e = .returned (.bool true)∧w'=w2
theorem lC(w:World):Ja w (.pointer none):=fun w' _=>aeU w'
theorem nT{w:World}{b:Nat}{sv ev:Value}{k:Int}(hx:Bx w b #[sv,ev,.i k,.z]):Ja w (.q b 0):=fun w' hE=>oH (hx.ext hE)
theorem Ub{w:World}{p:Value}(hn:Ja w p) :
  Calls prog 9 #[p] w fun r w'=>r = .returned (.tuple #[.i 0,.i 0])∧Ext w w':=by
 skip;refine ay3 func9 ntmps9 fun S=>aAx S (hn _ S.E) fun S=>ay8 S fun S=>Sx.KJ S (.i 0) (.i 0) (fun S=>?_);exact⟨rfl,S.E⟩
theorem MI{w:World}{p:Value}(hn:Ja w p) :
  Calls prog 10 #[p] w fun r w'=>r = .returned (.tuple #[.sn,.i 1])∧Ext w w':=by
 skip;refine ay3 func10 ntmps10 fun S=>aAx S (hn _ S.E) fun S=>ay8 S fun S=>Sx.KJ S (.sn) (.i 1) (fun S=>?_);exact⟨rfl,S.E⟩
theorem BP{w:World}{p:Value}(hn:Ja w p) :
  Calls prog 11 #[p] w fun r w'=>r = .returned (.tuple #[.i 0,.i 1])∧Ext w w':=by
 skip;refine ay3 func11 ntmps11 fun S=>aAx S (hn _ S.E) fun S=>ay8 S fun S=>Sx.KJ S (.i 0) (.i 1) (fun S=>?_);exact⟨rfl,S.E⟩
theorem Jb{w:World}{p:Value}(hn:Ja w p) :
  Calls prog 12 #[p] w fun r w'=>r = .returned (.pointer none)∧Ext w w':=by
 skip;refine ay3 func12 ntmps12 fun S=>aAx S (hn _ S.E) fun S=>ay8 S fun S=>apB S ((.pointer none)) (fun S=>?_);exact⟨rfl,S.E⟩
theorem Jc{w:World}{p:Value}{x:Nat→Value}(hn:Ja w p) :
  Calls prog 13 #[p,.agg (edX x).toArray] w fun r w'=>r = .returned (.i 1)∧Ext w w':=by
 skip;refine ay3 func13 ntmps13 fun S=>ay2 S fun u b2 E3 hb4 S=>aAx S (hn _ S.E) fun S=>ay8 S fun S=>apB S (.i 1) (fun S=>?_);exact⟨rfl,S.E⟩
theorem MJ{w:World}{p:Value}(hn:Ja w p) :
  Calls prog 14 #[p] w fun r w'=>r = .returned (.i 1)∧Ext w w':=by
 skip;refine ay3 func14 ntmps14 fun S=>aAx S (hn _ S.E) fun S=>ay8 S fun S=>apB S (.i 1) (fun S=>?_);exact⟨rfl,S.E⟩
theorem MK{w:World}{p:Value}(hn:Ja w p) :
  Calls prog 15 #[p] w fun r w'=>r = .returned (.i 1)∧Ext w w':=by
 skip;refine ay3 func15 ntmps15 fun S=>aAx S (hn _ S.E) fun S=>ay8 S fun S=>apB S (.i 1) (fun S=>?_);exact⟨rfl,S.E⟩
theorem Jd{w:World}{p:Value}(hn:Ja w p) :
  Calls prog 17 #[p] w fun r w'=>r = .returned (aI.zero.v)∧Ext w w':=by
 skip;refine ay3 func17 ntmps17 fun S=>ay2 S fun u b2 E3 hb4 S=>aAx S (hn _ S.E) fun S=>ay8 S fun S=>ay4 S 0 rfl fun u C8 S=>azf S 0 rfl (v:=aI.zero.v) (fun S=>?_);exact⟨rfl,S.E⟩
theorem Je{w:World}{p:Value}(hn:Ja w p) :
  Calls prog 18 #[p] w fun r w'=>r = .returned (.sn)∧Ext w w':=by
 skip;refine ay3 func18 ntmps18 fun S=>aAx S (hn _ S.E) fun S=>ay8 S fun S=>apB S (.sn) (fun S=>?_);exact⟨rfl,S.E⟩
theorem Gg{w:World}{x:Nat→Value}(hx:True)(hg:dO w) :
  Calls prog 3 #[.agg (edX x).toArray] w fun r w'=>r = .returned (.bool true)∧Ext w w':=by
 skip;refine ay3 func3 ntmps3 fun S=>ay2 S fun u b2 E3 hb4 S=>ay2 S fun u b7 E8 hb9 S=>ay2 S fun u b10 zo Ew S=>Sx.XY S 2 fun S=>ay8 S fun S=>adr S 4 [] [.mem 0 0] fun S=>azd S (Ub (lC _)) fun u yw S=>azd S (MI (lC _)) fun u xA S=>azd S (BP (lC _)) fun u NI S=>adr S 13 [37,38,41,43] [] fun S=>ay7 S fun S=>Sx.nO S (some 42) (Jb (lC _)) ?_;rintro e u ⟨rfl,DJ⟩;refine⟨_,rfl,DJ,fun ac S=>?_⟩;refine azs S fun S=>adr S 2 [37,38,41,43] [] fun S=>azg S fun S=>adr S 2 [] [.mem 2 0] fun S=>azd S (Jc (x:=x) (lC _)) fun u E27 S=>adr S 3 [50,52,55,57,60,62,64,67,68,71,72,75,77,78,81,82,83,86,87] [] fun S=>ay7 S fun S=>Sx.nO S (some 51) (MJ (lC _)) ?_;rintro e u ⟨rfl,Ve⟩;refine⟨_,rfl,Ve,fun ac S=>?_⟩;refine azs S fun S=>adr S 4 [50,52,55,57,60,62,64,67,68,71,72,75,77,78,81,82,83,86,87] [] fun S=>ay7 S fun S=>Sx.nO S (some 56) (MK (lC _)) ?_;rintro e u ⟨rfl,yC⟩;refine⟨_,rfl,yC,fun ac S=>?_⟩;refine azs S fun S=>adr S 4 [50,52,55,57,60,62,64,67,68,71,72,75,77,78,81,82,83,86,87] [] fun S=>ay7 S fun S=>Sx.nO S (some 61) (Jd (lC _)) ?_;rintro e u ⟨rfl,E30⟩;refine⟨_,rfl,E30,fun ac S=>?_⟩;refine azs S fun S=>adr S 1 [50,52,55,57,60,62,64,67,68,71,72,75,77,78,81,82,83,86,87] [] fun S=>ay7 S fun S=>Sx.nO S (some 63) (BO (wS (K:=20) (s := .zero) (t := .zero) (kQ _) (kQ _)) (show Value.bool (decide _) = .bool true by simp)) ?_;rintro e u ⟨rfl,Ah⟩;refine⟨_,rfl,Ah,fun ac S=>?_⟩;refine azs S fun S=>adr S 12 [50,52,55,57,60,62,64,67,68,71,72,75,77,78,81,82,83,86,87] [] fun S=>ay7 S fun S=>Sx.nO S (some 76) (Je (lC _)) ?_;rintro e u ⟨rfl,E32⟩;refine⟨_,rfl,E32,fun ac S=>?_⟩;refine azs S fun S=>adr S 12 [50,52,55,57,60,62,64,67,68,71,72,75,77,78,81,82,83,86,87] [] fun S=>azg S fun S=>ay8 S fun S=>adr S 4 [] [.mem 0 1] fun S=>azd S (Ub (nT (sv := .sn) (ev := .sn) (k:=0) (S.kG 1))) fun u E38 S=>azd S (MI (nT (sv := .sn) (ev := .sn) (k:=0) (S.kG 1))) fun u E40 S=>azd S (BP (nT (sv := .sn) (ev := .sn) (k:=0) (S.kG 1))) fun u E42 S=>adr S 13 [37,38,41,43] [] fun S=>ay7 S fun S=>Sx.nO S (some 42) (Jb (nT (sv := .sn) (ev := .sn) (k:=0) (S.kG 1))) ?_;rintro e u ⟨rfl,E45⟩;refine⟨_,rfl,E45,fun ac S=>?_⟩;refine azs S fun S=>adr S 2 [37,38,41,43] [] fun S=>azg S fun S=>adr S 2 [] [.mem 2 0] fun S=>azd S (Jc (x:=x) (nT (sv := .sn) (ev := .sn) (k:=0) (S.kG 1))) fun u E47 S=>adr S 3 [50,52,55,57,60,62,64,67,68,71,72,75,77,78,81,82,83,86,87] [] fun S=>ay7 S fun S=>Sx.nO S (some 51) (MJ (nT (sv := .sn) (ev := .sn) (k:=0) (S.kG 1))) ?_;rintro e u ⟨rfl,NM⟩;refine⟨_,rfl,NM,fun ac S=>?_⟩;refine azs S fun S=>adr S 4 [50,52,55,57,60,62,64,67,68,71,72,75,77,78,81,82,83,86,87] [] fun S=>ay7 S fun S=>Sx.nO S (some 56) (MK (nT (sv := .sn) (ev := .sn) (k:=0) (S.kG 1))) ?_;rintro e u ⟨rfl,X0⟩;refine⟨_,rfl,X0,fun ac S=>?_⟩;refine azs S fun S=>adr S 4 [50,52,55,57,60,62,64,67,68,71,72,75,77,78,81,82,83,86,87] [] fun S=>ay7 S fun S=>Sx.nO S (some 61) (Jd (nT (sv := .sn) (ev := .sn) (k:=0) (S.kG 1))) ?_;rintro e u ⟨rfl,E50⟩;refine⟨_,rfl,E50,fun ac S=>?_⟩;refine azs S fun S=>adr S 1 [50,52,55,57,60,62,64,67,68,71,72,75,77,78,81,82,83,86,87] [] fun S=>ay7 S fun S=>Sx.nO S (some 63) (BO (wS (K:=20) (s := .zero) (t := .zero) (kQ _) (kQ _)) (show Value.bool (decide _) = .bool true by simp)) ?_;rintro e u ⟨rfl,E51⟩;refine⟨_,rfl,E51,fun ac S=>?_⟩;refine azs S fun S=>adr S 12 [50,52,55,57,60,62,64,67,68,71,72,75,77,78,81,82,83,86,87] [] fun S=>ay7 S fun S=>Sx.nO S (some 76) (Je (nT (sv := .sn) (ev := .sn) (k:=0) (S.kG 1))) ?_;rintro e u ⟨rfl,E52⟩;refine⟨_,rfl,E52,fun ac S=>?_⟩;refine azs S fun S=>adr S 12 [50,52,55,57,60,62,64,67,68,71,72,75,77,78,81,82,83,86,87] [] fun S=>azg S fun S=>azg S fun S=>azd S (afn (dO.below hg S.E)) fun u E56 S=>apB S (.bool true) (fun S=>?_);exact⟨rfl,S.E⟩
end
end Go.Proofs.YtodpgjjgaddkeaaGreatDoor
