/- Decoding: open, a scene without nodes. Decoding one scene without nodes. -/
import Derived.Test.YtapmgonflgahbaaGreatDoorPk36
set_option linter.unusedVariables false
namespace Go.Proofs.YtapmgonflgahbaaGreatDoor
open _root_.Go.Proofs.Tryz
section
open Go.RowKit
variable{α:Type}{K:Nat}
theorem xE{f:α→Value}{w:World}{v:Value}{l:List α}(h:bV f w v l):aN 1 (fun x=>[f x]) w v l:=by
 obtain⟨a,cap,rfl,hm,hh⟩:=h;refine⟨a,cap,rfl,hm,hh.imp id ?_⟩;rintro⟨b,o,rfl,hb,hl,hc⟩;refine⟨b,o,rfl,hb,hl,fun i hi j hj=>?_⟩;obtain rfl:j=0:=by omega
 rw[show o+i*1+0=o+i by omega,hc i hi]; rfl
theorem pG(m:List UInt8):(dL.app m).length=m.length+4:=by simp[dL.app,dL.le4]
theorem MN{w:World}{v:Value}{m:List UInt8}(h:kZ w v (dL.app m))(hm:m.length≤100000000) :
  Calls prog 101 #[v] w fun e w'=>∃v',e = .returned (.tuple #[v',.i 0])∧kZ w' v' m∧Ext w w':=by
 refine(zf v (dL.app m) m.length w (gY h) (pG m) hm).mono ?_;rintro e w' ⟨v',k,rfl,hE,h1,-⟩;have ht:(dL.app m).take m.length=m:=by unfold dL.app; rw[List.take_left]
 obtain⟨rfl,hb⟩:=h1 (by rw[ht]; unfold dL.app; rw[List.drop_left]);rw[ht]at hb;exact⟨v',rfl,xE hb,hE⟩
set_option maxRecDepth 100000 in
set_option maxHeartbeats 1600000 in
theorem Ce{w:World}{v:Value}{m:List UInt8}{c0 c1' c2:UInt8}(h:kZ w v (dL.app m))(hm:m.length≤1000000)(hp:m.take 3=[c0,c1',c2]) :
  Calls prog 49 #[v,.string ⟨#[c0,c1',c2]⟩] w fun e w'=>∃b a1 c1 wm,e = .returned (.tuple #[.q b 0,.i 0])∧Ext w wm∧kZ wm (.slice a1 m.length c1) m∧wm.heap.size≤b∧Ext wm w'∧Bx w' b #[.slice a1 m.length c1,.i (3:Nat),.z,.z]:=by
 replace hm:m.length≤100000000:=by omega
 obtain⟨a,cap,rfl⟩:=h.shape;refine ahO func49 ntmps49 fun ac S=>ahK fun _ aY=>adr S 2 [] [(4,(.pointer none)),(5,.i 0)] fun S=>ahJ<|aY _ _<|ahK fun _ fA=>adr S 1 [] [(9,.slice a ((dL.app m).length) cap)] fun S=>ahQ S (some 10) (MN h hm) ?_;rintro e u ⟨v1,rfl,hv1,E3⟩;obtain⟨a1,c1,rfl⟩:=hv1.shape;refine⟨_,rfl,E3,fun ac S=>?_⟩;obtain⟨wm,hwm⟩:∃x,x=u:=⟨_,rfl⟩;have hbm:kZ wm (.slice a1 m.length c1) m:=hwm▸hv1;have ab4:Ext w wm:=hwm▸S.E;have hEm:Ext wm u:=hwm▸Ext.rfl';clear hwm;refine adr S 5 [] [(6,.slice a1 m.length c1),(7,.i 0)] fun S=>ahJ<|fA _ _<|ah2 fun _ nT=>ahK fun _ dw=>adr S 2 [] [(14,.z)] fun S=>ahJ<|dw _ _<|ahX S<|ah4<|nT _ _<|ah2 fun _ iT=>ahK fun _ iL=>adr S 2 [] [(16,.slice a1 m.length c1),(17,.string ⟨#[c0,c1',c2]⟩)] fun S=>Sx.bytesOf S 18 [c0,c1',c2] underlying9 underlying49 underlying5 (by simp[maxLen]) fun{ac u b10 c11} E8 hr9 S=>ahS S 19 ((by have hc:=uZ (w:=u) (aN.below hbm ((Ext.trans' hEm E8))) ((xE hr9)); rw[show(decide ([c0,c1',c2].length≤m.length)&&(m.take [c0,c1',c2].length==[c0,c1',c2]))=true by(have e:m.take 3=[c0,c1',c2]:=hp; have e2:=aic List.length e; simp at e2; simp[e]; omega)]at hc; exact hc)) fun ac u yw S=>adr S 1 [] [(20,.z)] fun S=>ahJ<|iL _ _<|ahX S<|ah4<|iT _ _<|ahK (fun _ iI=>?_);have hws:=(((Ext.trans' hEm (Ext.trans' E8 yw)))).size;refine adr S 4 [] [(24,.agg #[.slice a1 m.length c1,.i 3,.z,.z])] fun S=>ahL S 25 [.slice a1 m.length c1,.i 3,.z,.z] fun ac u b14 FX hb16 S=>adr S 2 [] [(4,.q b14 0),(5,.i 0)] fun S=>ahJ<|iI _ _<|Sx.rt2 S results49 ?_;exact⟨_,_,_,wm,rfl,ab4,hbm,by have:=hb16; omega,((Ext.trans' hEm (Ext.trans' E8 (Ext.trans' yw FX)))),S.bx 0⟩
end
section
open Go.RowKit
variable{α:Type}{K:Nat}
def s0:bC:=⟨4,4,⟨255,255,255,255⟩,none,0,[]⟩
def m0:List UInt8:=[71,83,49,8,8,255,255,255,255,0]
theorem OW(w:World):gQ 20 w s0:=⟨show I64 4 by decide,show I64 4 by decide,jC _ _ _,fun n hn=>by cases hn⟩
theorem JL:s0.key.valid=true:=by decide +kernel
theorem JM:XK s0=m0:=by decide +kernel
theorem Gw:WB m0 3 false=4∧WA m0 3 false=4∧ML m0 3 false=false:=by decide +kernel
theorem Gx:WB m0 4 false=4∧WA m0 4 false=5∧ML m0 4 false=false:=by decide +kernel
theorem MO:XJ m0 5 false 4=[255,255,255,255]∧tkP m0 5 false 4=9∧Rk m0 5 false 4=false:=by decide +kernel
theorem Ci:rcV m0 9 false=0∧rcP m0 9 false=10∧XL m0 9 false=false:=by decide +kernel
theorem ab5{q:dA}{a b c d:UInt8}(h:Px.pb q=[a,b,c,d]):q=⟨a,b,c,d⟩:=by
 obtain⟨r,g,b',a'⟩:=q;simp only[Px.pb,aix,and_true]at h;obtain⟨rfl,rfl,rfl,rfl⟩:=h; rfl
set_option maxRecDepth 100000 in
set_option maxHeartbeats 1600000 in
theorem DW{w:World}{v:Value}(hg:bW w)(h:kZ w v (dL.app m0)) :
  Calls prog 18 #[v] w fun e w'=>e = .returned (.tuple #[s0.v,.i 0])∧Ext w w':=by
 obtain⟨a,cap,rfl⟩:=h.shape;refine ahO func18 ntmps18 fun ac S=>ahK fun _ aY=>ahL S 2 [.i 0,.i 0,.u 0,.u 0,.u 0,.u 0,.sn] fun ac u b2 E3 hb4 S=>adr S 1 [] [(3,.i 0)] fun S=>ahJ<|aY _ _<|ahK fun _ dw=>adr S 1 [] [(9,.slice a ((dL.app m0).length) cap)] (fun S=>?_);have hz0:=(S.bx 0).1;have hu0:=S.E.size;have hEq:=S.E;refine ahQ S (some 10) (Ce (aN.below h S.E) (by decide) (by rfl)) ?_;rintro e u ⟨rb,a1,c1,wm,rfl,hE0,hbm,hws,hE1,hXr⟩;refine⟨_,rfl,Ext.trans' hE0 hE1,fun ac S=>?_⟩;have hs0:=hE0.size;have WC:Ext w wm:=Ext.trans' hEq hE0;have E6:=Ext.trans' hE0 hE1;have S:=S.adopt (A:=[.slice a1 m0.length c1,.i (3:Nat),.z,.z]) hXr (by omega) (fun p hp=>by rcases aip.1 hp with rfl | hp; (intro e; simp only at e; omega); cases hp) (fun m hm=>by cases hm);refine adr S 5 [] [(4,.q rb 0),(5,.i 0)] fun S=>ahJ<|dw _ _<|ah2 fun _ iL=>ahK fun _ dR=>adr S 2 [] [(14,.z)] fun S=>ahJ<|dR _ _<|ahX S<|ah4<|iL _ _<|ahK fun _ iD=>adr S 1 [] [(17,.q rb 0)] (fun S=>?_);have uo:=hE1;refine Sx.mW S 0 [.slice a1 m0.length c1,.i (4:Nat),.z,.z] (some 18) rfl (by have hc:=nP (l:=m0) (p:=3) uo (S.bx 0) hws hbm (by decide); rw[Gw.2.1,Gw.2.2]at hc; exact hc) ?_;rintro e u ⟨rfl,RI,ab6,ab7⟩;refine⟨_,rfl,Ext.trans' WC RI,ab6,ab7,fun ac S=>?_⟩;have UH:=RI;have agc:=RI.size;rw[Gw.1]at S;refine adr S 1 [] [(19,.agg #[.i 4,.i 0,.u 0,.u 0,.u 0,.u 0,.sn])] fun S=>ahL S 6 [.i 0,.i 0,.u 0,.u 0,.u 0,.u 0,.sn] fun ac u b12 Nz aaN S=>ahP S 0 (off:=0) (cs:=[.i 4,.i 0,.u 0,.u 0,.u 0,.u 0,.sn]) rfl (fun u C15 S=>?_);have XF:=ahR Nz C15 (by omega);refine ahJ<|iD _ _<|ahK fun _ iq=>adr S 1 [] [(20,.q rb 0)] (fun S=>?_);have uo:=((Ext.trans' UH XF));refine Sx.mW S 1 [.slice a1 m0.length c1,.i (5:Nat),.z,.z] (some 21) rfl (by have hc:=nP (l:=m0) (p:=4) uo (S.bx 1) hws hbm (by decide); rw[Gx.2.1,Gx.2.2]at hc; exact hc) ?_;rintro e u ⟨rfl,MP,Zb,ab8⟩;refine⟨_,rfl,Ext.trans' WC MP,Zb,ab8,fun ac S=>?_⟩;have Hy:=MP;have agd:=MP.size;rw[Gx.1]at S;refine adr S 1 [] [(22,.q b12 1)] fun S=>ah3 S 0 (off:=1) (v := .i 4) rfl (fun u KA S=>?_);have ab9:=(ahR Hy KA (by omega));refine ahJ<|iq _ _<|ahK fun _ kW=>adr S 1 [] [(23,.q rb 0)] (fun S=>?_);have uo:=ab9;refine Sx.mW S 1 [.slice a1 m0.length c1,.i (9:Nat),.z,.z] (some 24) rfl (by have hc:=Jz (l:=m0) (p:=5) uo (S.bx 1) hws hbm (by decide); rw[MO.2.1,MO.2.2]at hc; exact hc) ?_;rintro e u ⟨q,rfl,hq,acd,agf,agh⟩;obtain rfl:=ab5 (hq.trans MO.1);refine⟨_,rfl,Ext.trans' WC acd,agf,agh,fun ac S=>?_⟩;have agi:=acd;have ahr:=acd.size;refine adr S 1 [] [(25,.q b12 2)] fun S=>ahP S 0 (off:=2) (cs:=[.u 255,.u 255,.u 255,.u 255]) rfl (fun u Uz S=>?_);have MQ:=(ahR agi Uz (by omega));refine ahJ<|kW _ _<|ahK fun _ l9=>adr S 2 [] [(26,.q rb 0),(27,.q rb 0)] (fun S=>?_);have uo:=MQ;refine Sx.mW S 1 [.slice a1 m0.length c1,.i (10:Nat),.z,.z] (some 28) rfl (by have hc:=JJ (l:=m0) (p:=9) uo (S.bx 1) hws hbm (by decide); rw[Ci.2.1,Ci.2.2]at hc; exact hc) ?_;rintro e u ⟨rfl,MR,Zc,ace⟩;refine⟨_,rfl,Ext.trans' WC MR,Zc,ace,fun ac S=>?_⟩;have WE:=MR;have agj:=MR.size;rw[Ci.1]at S;refine adr S 2 [] [(30,.func (.func 54) #[.q rb 0] #[])] fun S=>ahS S 31 (JK (r := .q rb 0) (f := .func (.func 54) #[.q rb 0] #[])) fun ac u E30 S=>adr S 1 [] [(32,.q b12 6)] fun S=>ah3 S 0 (off:=6) (v := .sn) rfl (fun u C31 S=>?_);have JO:=(ahR ((Ext.trans' WE E30)) C31 (by omega));refine ahJ<|l9 _ _<|ahK fun _ kD=>adr S 1 [.mem 0 0] [(34,.agg #[.i 4,.i 4,.u 255,.u 255,.u 255,.u 255,.sn])] fun S=>ahQ S (some 35) (uY (K:=20) (OW _) (bW.below hg S.E) rfl JL) ?_;rintro e u ⟨v35,rfl,Ul,PL⟩;refine⟨_,rfl,PL,fun ac S=>?_⟩;refine adr S 5 [] [(5,.i 0),(7,v35)] fun S=>ahJ<|kD _ _<|ah2 fun _ qF=>ahK fun _ mY=>adr S 11 [.mem 1 2] [(46,.z),(47,v35),(48,.slice a ((dL.app m0).length) cap)] fun S=>Sx.yG S (some 49) ((by have hc:=ah0 (oC _ _ (dL.app (XK s0)) (dL.app m0) u (pX (Ul)) (gY (aN.below h S.E))); rw[JM,show(dL.app m0==dL.app m0)=true from by simp]at hc; exact hc)) ?_;rintro e u ⟨rfl,PX⟩;refine⟨_,rfl,PX,fun ac S=>?_⟩;refine adr S 2 [] [(51,.z)] fun S=>ahJ<|mY _ _<|ahX S<|ah4<|qF _ _<|ahK fun _ lq=>adr S 1 [.mem 0 0] [(53,.agg #[.i 4,.i 4,.u 255,.u 255,.u 255,.u 255,.sn])] fun S=>ahP S 2 (off:=0) (cs:=[.i 4,.i 4,.u 255,.u 255,.u 255,.u 255,.sn]) rfl fun u C39 S=>adr S 1 [] [(3,.i 0)] fun S=>ahJ<|lq _ _<|aii ?_;refine Sx.WG S 2 results18 rfl (v:=s0.v) (u := .i 0) ⟨rfl,S.E⟩
end
end Go.Proofs.YtapmgonflgahbaaGreatDoor
