/- What decoding an encoding gives: scenes and edits. No -/
import Derived.Test.YtapmgonflgahbaaGreatDoorDeE1
import Derived.Test.YtapmgonflgahbaaGreatDoorPk32
set_option linter.unusedVariables false
section
namespace Go.Proofs.YtapmgonflgahbaaGreatDoor
open En
variable{K L:Nat}
theorem bD.fit.up{k k':Nat}{t:bD}(h:t.fit k)(hk:k≤k'):t.fit k':=⟨h.1.mono hk,h.2.1.mono hk,h.2.2.1.mono hk,h.2.2.2.1.mono hk,h.2.2.2.2.1.mono hk,h.2.2.2.2.2.mono hk⟩
theorem fB.up{w:World}{n:aA}(h:fB K w n)(hk:K≤L)(hL:L≤10000):fB L w n:=⟨h.1,h.2.1.up hk,fun p hp=>(h.2.2.1 p hp).up hk,fun p hp=>(h.2.2.2.1 p hp).up hk,awU h.2.2.2.2.1 hk,hL⟩
theorem eX.up{w:World}{s:bF}(h:eX K w s)(hk:K≤L)(hL:L≤10000):eX L w s:=⟨h.1,h.2.1,h.2.2.1,fun n hn=>(h.2.2.2 n hn).up hk hL⟩
theorem iF.up{w:World}{e:fD}(h:iF K w e)(hk:K≤L)(hL:L≤10000):iF L w e:=⟨h.1,h.2.1,h.2.2.1,h.2.2.2.1,h.2.2.2.2.up hk hL⟩
theorem Zn{w:World}{e d:fD}(h:iF K w e)(h':iF K w d)(m:fJ e.key=false)(m':fJ d.key=false)(v:jL e.key=true→e.key.node.chk=0)(v':jL d.key=true→d.key.node.chk=0)(hb:jV e.key=jV d.key):e.key=d.key:=by
 have k:=Ru h m v;have k':=Ru h' m' v';unfold jV at hb;have hb:=List.append_cancel_left hb;rw[EN,EN]at hb;obtain⟨i1,i2,i3,i4⟩:=k.i;obtain⟨j1,j2,j3,j4⟩:=k'.i;obtain⟨e1,hb⟩:=JY i1 j1 _ _ hb;obtain⟨e2,hb⟩:=JY i2 j2 _ _ hb;obtain⟨e3,hb⟩:=JY i3 j3 _ _ hb;obtain⟨e4,hb⟩:=JY i4 j4 _ _ hb;have hn:e.key.node=d.key.node∧e.key.color=d.key.color:=by
  unfold zq at hb;by_cases hk:e.key.kind=1∨e.key.kind=4
  ·have hk':d.key.kind=1∨d.key.kind=4:=e1▸hk;rw[awl hk,awl hk']at hb;have c1:=v (by unfold jL; simpa using hk);have c2:=v' (by unfold jL; simpa using hk');rw[show e.key.node=e.node.key from rfl,mG]at c1;rw[show d.key.node=d.node.key from rfl,mG]at c2;exact⟨(JZ h.2.2.2.2.1 h'.2.2.2.2.1 c1 c2 [] [] (by rw[axt,axt]; exact hb)).1,(k.color (by omega)).trans (k'.color (by omega)).symm⟩
  have hk':¬(d.key.kind=1∨d.key.kind=4):=e1▸hk;rw[awj hk,awj hk']at hb;refine⟨(k.Vg hk).trans (k'.Vg hk').symm,?_⟩;by_cases h5:e.key.kind=5
  ·have h5':d.key.kind=5:=e1▸h5;rw[awl h5,awl h5']at hb;exact(Qr _ _ [] [] (by rw[axt,axt]; exact hb)).1
  have h5':¬d.key.kind=5:=e1▸h5;exact(k.color h5).trans (k'.color h5').symm
 obtain⟨e5,e6⟩:=hn;revert e1 e2 e3 e4 e5 e6;generalize e.key=x;generalize d.key=y;intro e1 e2 e3 e4 e5 e6;cases x; cases y;simp only at e1 e2 e3 e4 e5 e6;rw[e1,e2,e3,e4,e5,e6]
theorem H9.back{w:World}{s:bF}{v:Value}{er:Int}(hK:K≤5000)(hs:eX K w s)(hv:s.key.valid=true)(h:H9 w (dU.app (gZ s.key)) v er):er=0∧∃t:bF,v=t.v∧eX 5000 w t∧t.key=s.key:=by
 rcases h with ⟨h0,t,h1,h2,h3,h4,h5⟩ | ⟨h0,h1,⟨h2,h3⟩ | ⟨h2,h3,h4⟩ | ⟨h2,h3,h4⟩⟩
 ·exact⟨h0,t,h1,h2,((UR (hs.up hK (by decide)) h2 hv h3 [] [] (by rw[rU h5])).1).symm⟩
 ·rw[mJ]at h3; omega
 ·exact absurd rfl (h4 _)
 exact absurd rfl (h4 _ _ s hs hv)
theorem KE.back{w:World}{e:fD}{v:Value}{er:Int}(hK:K≤5000)(hs:iF K w e)(hm:fJ e.key=false)(hv:jL e.key=true→e.key.node.chk=0)(h:KE w (dU.app (jV e.key)) v er):er=0∧∃t:fD,v=t.v∧iF 5000 w t∧t.key=e.key:=by
 rcases h with ⟨h0,t,h1,h2,h3,h4,h5,h6⟩ | ⟨h0,h1,⟨h2,h3⟩ | ⟨h2,h3,h4⟩ | ⟨h2,h3,h4⟩⟩
 ·exact⟨h0,t,h1,h2,(Zn (hs.up hK (by decide)) h2 hm h3 hv h4 (rU h6)).symm⟩
 ·rw[mJ]at h3; omega
 ·exact absurd rfl (h4 _)
 exact absurd rfl (h4 _ _ e hs hm hv)
theorem H9.afy{w w':World}{lb:List UInt8}{v u:Value}{er fr:Int}(h:H9 w lb v er)(k:KE w' lb u fr):(er=0→fr=3)∧(fr=0→er=3):=by
 have hne:∀(s:ji) (e:uf),dU.app (gZ s)≠dU.app (jV e):=fun s e hh=>by
  have:=rU hh;unfold gZ jV at this;have:=awp (List.take 3) this;simp at this
 constructor
 ·intro h0;rcases h with ⟨-,s,h1,h2,h3,h4,h5⟩ | ⟨h,-⟩
  ·rcases k with ⟨-,e,k1,k2,k3,k4,k5,k6⟩ | ⟨k0,k1,⟨k2,k3⟩ | ⟨k2,k3,k4⟩ | ⟨k2,k3,k4⟩⟩
   ·exact absurd (h5.symm.trans k6) (hne _ _)
   ·rw[h5,mJ]at k3; omega
   ·exact absurd h5 (k4 _)
   exact k2
  exact absurd h0 h
 intro h0;rcases k with ⟨-,e,k1,k2,k3,k4,k5,k6⟩ | ⟨k,-⟩
 ·rcases h with ⟨-,s,h1,h2,h3,h4,h5⟩ | ⟨h0,h1,⟨h2,h3⟩ | ⟨h2,h3,h4⟩ | ⟨h2,h3,h4⟩⟩
  ·exact absurd (h5.symm.trans k6) (hne _ _)
  ·rw[k6,mJ]at h3; omega
  ·exact absurd k6 (h4 _)
  exact h2
 exact absurd h0 k
theorem Kq.good{base:Nat}{w:World}{s:ji}{v:Value}{er:Int}(h:Kq base w s v er)(hv:s.valid=true):er=0∧OwnB base w v (dU.app (gZ s)):=by
 rcases h with ⟨h1,h2,h3⟩ | ⟨h1,-⟩
 ·exact⟨h3,h2⟩
 rw[hv]at h1; cases h1
theorem Jp.good{base:Nat}{w:World}{e:uf}{v:Value}{er:Int}(h:Jp base w e v er)(hm:fJ e=false)(hv:jL e=true→e.node.chk=0):er=0∧OwnB base w v (dU.app (jV e)):=by
 rcases h with ⟨h1,-⟩ | ⟨h1,h2,h3,-⟩ | ⟨h1,h2,h3,h4⟩
 ·rw[hm]at h1; cases h1
 ·exact absurd (hv h2) h3
 exact⟨h4,h3⟩
theorem U3{s:bF}(h:s.key.valid=true):(dU.app (gZ s.key)).length≤60000000:=by
 rw[mJ]; have:=CS h; omega
theorem Zo{e:fD}(hv:jL e.key=true→e.key.node.chk=0):(dU.app (jV e.key)).length≤60000000:=by
 rw[mJ];have:=Vw (e:=e) fun hk=>by
  have:=hv (by unfold jL; show((e.kind==1)||(e.kind==4))=true; simpa using hk);rwa [show e.key.node=e.node.key from rfl,mG]at this
 unfold jV;simp only[awr,awV,axn];omega
def QL(w:World)(lb:List UInt8)(s:bF)(er:Int):Prop:=(er=0∧eX 5000 w s∧s.key.valid=true∧(∀n∈s.ns,n.t.least)∧lb=dU.app (gZ s.key))∨er≠0
theorem H9.ajn{w:World}{lb:List UInt8}{v:Value}{er:Int}(h:H9 w lb v er):∃s:bF,v=s.v∧QL w lb s er:=by
 rcases h with ⟨h0,s,h1,h2,h3,h4,h5⟩ | ⟨h0,h1,-⟩
 ·exact⟨s,h1,.inl ⟨h0,h2,h3,h4,h5⟩⟩
 exact⟨_,h1,.inr h0⟩
def QM(w:World)(lb:List UInt8)(e:fD)(er:Int):Prop:=(er=0∧iF 5000 w e∧fJ e.key=false∧(jL e.key=true→e.key.node.chk=0)∧e.node.t.least∧lb=dU.app (jV e.key))∨(er≠0∧e=fD.zero)
theorem KE.ajn{w:World}{lb:List UInt8}{v:Value}{er:Int}(h:KE w lb v er):∃e:fD,v=e.v∧QM w lb e er:=by
 rcases h with ⟨h0,e,h1,h2,h3,h4,h5,h6⟩ | ⟨h0,h1,-⟩
 ·exact⟨e,h1,.inl ⟨h0,h2,h3,h4,h5,h6⟩⟩
 exact⟨_,h1,.inr ⟨h0,rfl⟩⟩
theorem QL.ex{w w':World}{lb:List UInt8}{s:bF}{er:Int}(h:QL w lb s er)(e:Ext w w'):QL w' lb s er:=by
 rcases h with ⟨h0,h1,h2⟩ | h
 ·exact .inl ⟨h0,h1.below e,h2⟩
 exact .inr h
theorem QM.ex{w w':World}{lb:List UInt8}{s:fD}{er:Int}(h:QM w lb s er)(e:Ext w w'):QM w' lb s er:=by
 rcases h with ⟨h0,h1,h2⟩ | h
 ·exact .inl ⟨h0,h1.below e,h2⟩
 exact .inr h
theorem pK(w:World)(hK:1≤K∧K≤10000):iF K w fD.zero:=⟨by decide,by decide,by decide,by decide,iJ w hK.1 hK.2⟩
theorem adf(a b:fD):(((((((a.kind)==b.kind)&&((a.id)==b.id))&&((a.index)==b.index))&&((a.depth)==b.depth))&&(decide (a.color=b.color)))&&(decide (a.node.key=b.node.key)))=decide (a.key=b.key):=by
 rw[axA];simp only[awC,awE,awL,fD.key,uf.mk.injEq];constructor
 ·rintro⟨⟨⟨⟨⟨h1,h2⟩,h3⟩,h4⟩,h5⟩,h6⟩; exact⟨h1,h2,h3,h4,h6,h5⟩
 rintro⟨h1,h2,h3,h4,h6,h5⟩; exact⟨⟨⟨⟨⟨h1,h2⟩,h3⟩,h4⟩,h5⟩,h6⟩
end Go.Proofs.YtapmgonflgahbaaGreatDoor
end
section
namespace Go.Sx
open Go.Proofs.YtapmgonflgahbaaGreatDoor Go.RowKit Go.Rel
variable{P:Program}{ops:Array Oper}{Q:Exit→Act→World→Prop}{w0 w:World}{a:Act}{os:List Oper}{n:Nat}{l:List (Nat×Value)}{bl:List (Nat×List Value)}{vs:List gJ}
def adg(P:Program)(ops:Array Oper)(os:List Oper)(l:List (Nat×Value)):Option (TypeId×TypeId×TypeId×Value×Nat):=match os with
 | o::_=>(match pathOf ops (lift l) o,o.dst,o.op with
  | some p,some d,.convert src dst x=>(match kJ (lift l) p with
   | true=>(match rd (lift l) [] x,P.underlying src,P.underlying dst with
    | some v,some (.slice e),some .string=>(match P.underlying e with
     | some (.int .u8)=>some (src,dst,e,v,d)
     | _=>none)
    | _,_,_=>none)
   | false=>none)
  | _,_,_=>none)
 | []=>none
theorem QN(S:St w0 a w n l bl vs){src dst e:TypeId}{v:Value}{d:Nat}{bs:List UInt8}(hv:bG w v bs)(next:∀{a'},St w0 a' w n ((d,.string ⟨bs.toArray⟩)::l) bl vs→wpList P ops Q (os.drop 1) a' w)
  (hx:adg P ops os l=some (src,dst,e,v,d):=by kernel_rfl) (hd:Cb n (some d)=true:=by rfl):wpList P ops Q os a w:=by
 cases os with
 | nil=>cases hx
 | cons o os =>
  unfold adg at hx;simp only at hx;split at hx
  ·rename_i p d' src' dst' x hp hdst hop;split at hx
   ·rename_i hgf;split at hx
    ·rename_i v' e' hxx hsrc hdd;split at hx
     ·rename_i hee;simp only[awn,awo]at hx;obtain⟨rfl,rfl,rfl,rfl,rfl⟩:=hx;have hst:=jE (dD S.s) o;have ex:a.eval x=v':=iU (Std.act a) (hst x (by rw[hop]; simp[Op.operands])) (p:=[]) rfl hxx;have hrun:(execOp a.eval o).run P w = .ok (.value (.string ⟨bs.toArray⟩)) w:=by
       have hr:=nP hsrc hee hdd hv;unfold execOp;rw[hop];simp only[ex];rw[aw7,hr];rfl
      unfold wpList;rw[awl ((xJ (a:=a) hp (fun x _ i y _ hl=>dD S.s i y hl)).2 hgf)];left;unfold Oper.wp;rw[hrun];simp only[Oper.upon];rw[hdst];exact next ((S.grow Ext.rfl').act (xB (d:=some d') S.s hd _))
     cases hx
    cases hx
   cases hx
  cases hx
theorem Xc{t:TypeId}{ox oy:Operand}{l m:List UInt8}{B:Bool}(hV:(l==m)=B) :
  ∀w,(do eqGuard .eql t ox oy (.string ⟨l.toArray⟩) (.string ⟨m.toArray⟩); binOp .eql t (.string ⟨l.toArray⟩) (.string ⟨m.toArray⟩):Sem Value).run P w = .ok (.bool B) w:=fun w=>by
 have hg:(eqGuard .eql t ox oy (.string ⟨l.toArray⟩) (.string ⟨m.toArray⟩)).run P w = .ok () w:=rfl;have hb:(binOp .eql t (.string ⟨l.toArray⟩) (.string ⟨m.toArray⟩)).run P w = .ok (.bool (l==m)) w:=by
  rw[binOp_string_eql,ayJ,ayJ]; rfl
 simp only[aw7,hg,hb,hV,ayf]
theorem QO{t:TypeId}{ox oy:Operand}{l m:List UInt8}{B:Bool}(hV:(l != m)=B) :
  ∀w,(do eqGuard .neq t ox oy (.string ⟨l.toArray⟩) (.string ⟨m.toArray⟩); binOp .neq t (.string ⟨l.toArray⟩) (.string ⟨m.toArray⟩):Sem Value).run P w = .ok (.bool B) w:=fun w=>by
 have hg:(eqGuard .neq t ox oy (.string ⟨l.toArray⟩) (.string ⟨m.toArray⟩)).run P w = .ok () w:=rfl;have hb:(binOp .neq t (.string ⟨l.toArray⟩) (.string ⟨m.toArray⟩)).run P w = .ok (.bool (l != m)) w:=by
  rw[binOp_string_neq,ayJ,ayJ]; rfl
 simp only[aw7,hg,hb,hV,ayf]
end Go.Sx
end
namespace Go.Proofs.YtapmgonflgahbaaGreatDoor
section
open Go.RowKit En
variable{α:Type}{K:Nat}
set_option maxRecDepth 100000 in
set_option maxHeartbeats 3200000 in
theorem Ib{w:World}{a b:fD}(h:iF K w a)(h':iF K w b) :
  Calls Tryz.prog 23 #[a.v,b.v] w fun r w'=>r = .returned (.bool (a.key=b.key))∧Ext w w':=by
 skip;refine avU Tryz.func23 Tryz.ntmps23 fun ac S=>avP fun _ aV=>avQ S 2 a.cells fun ac u b2 E3 hb4 S=>avQ S 3 b.cells fun ac u b5 E6 hb7 S=>adr S 1 [] [(4,.z)] fun S=>apB<|aV _ _<|avP fun _ dS=>av9 S 41 [.mem 1 0,.mem 0 0,.mem 1 1,.mem 0 1,.mem 1 2,.mem 0 2,.mem 1 3,.mem 0 3,.mem 1 51,.mem 0 51,.cmp .eql 23 (.tmp 33) (.tmp 35) (.agg #[.u (a.color.r.toNat:Int),.u (a.color.g.toNat:Int),.u (a.color.b.toNat:Int),.u (a.color.a.toNat:Int)]) (.agg #[.u (b.color.r.toNat:Int),.u (b.color.g.toNat:Int),.u (b.color.b.toNat:Int),.u (b.color.a.toNat:Int)]) (.bool (a.color=b.color)),.mem 1 4,.mem 0 4] [(_,_,((((((a.kind)==b.kind)&&((a.id)==b.id))&&((a.index)==b.index))&&((a.depth)==b.depth))&&(decide (a.color=b.color))),.bool (a.node.key=b.node.key))] [(4,.bool (((((((a.kind)==b.kind)&&((a.id)==b.id))&&((a.index)==b.index))&&((a.depth)==b.depth))&&(decide (a.color=b.color)))&&(decide (a.node.key=b.node.key))))] ⟨fun u hC g=>WH (h.2.2.2.2.below (Ext.trans' S.E hC)) (h'.2.2.2.2.below (Ext.trans' S.E hC)),trivial⟩ (hk:=⟨(awe (fun _=>aiE a.color b.color _) (by kernel_rfl)),trivial⟩) fun ac u E9 S=>apB<|dS _ _<|avS S Tryz.results23 ?_;exact⟨aH (adf a b),S.E⟩
end
section
open Go.RowKit En
variable{α:Type}{K:Nat}
set_option maxRecDepth 100000 in
set_option maxHeartbeats 3200000 in
theorem wL{w:World}{s:bF}{d:fD}(h:s.ok w)(h':d.ok w)(hg:cO w) :
  Calls Tryz.prog 7 #[s.v,d.v] w fun r w'=>r = .returned (.bool true)∧Ext w w':=by
 skip;refine avU Tryz.func7 Tryz.ntmps7 fun ac S=>avP fun _ aV=>avQ S 2 s.cells fun ac u b2 E3 hb4 S=>avQ S 3 d.cells fun ac u b5 E6 hb7 S=>adr S 1 [] [(4,.z)] fun S=>apB<|aV _ _<|awg fun _ dS=>avP fun _ ig=>adr S 1 [.mem 1 0] [(17,s.v)] fun S=>avZ S 18 (Y3 ⟨(h.2.2.1.below S.E),fun n hn=>(h.2.2.2 n hn).below S.E⟩ 12) fun ac u OE S=>av9 S 7 [.mem 0 4] [(_,_,(!(!(s.few 12))),.bool d.node.nZ)] [(25,.bool ((!(s.few 12))||(!d.node.nZ)))] ⟨fun u hC g=>Dy (h'.2.2.2.2.below (Ext.trans' S.E hC)),trivial⟩ fun ac u tJ S=>apB (ig _ _ ?_);refine avR S (fun hc12=>?_) (fun hc12=>?_)
 ·refine avP fun _ gW=>avZ S 26 (og (cO.below hg S.E)) fun ac u Dj S=>adr S 1 [] [(4,.bool true)] fun S=>apB<|gW _ _<|avS S Tryz.results7 ?_;exact⟨rfl,S.E⟩
 have hc0:s.few 12=true∧d.node.nZ=true:=by have:=hc12; simp at this; simp[this]
 have hS0:=(acQ hc0.1 h.1 h.2.1 h.2.2).1;have hD0:iF 20 w d:=⟨h'.1,h'.2.1,h'.2.2.1,h'.2.2.2.1,(zT hc0.2 h'.2.2.2.2).1⟩;refine awh<|dS _ _<|avP fun _ iG=>adr S 1 [.mem 1 0] [(28,s.v)] fun S=>avV S (some 29) (mP (hS0.below S.E) (cO.below hg S.E)) ?_;rintro e u ⟨v1,er1,rfl,hsc1,E5⟩;refine⟨_,rfl,E5,fun ac S=>?_⟩;refine adr S 5 [] [(5,v1),(6,.i er1)] fun S=>apB<|iG _ _<|awg fun _ gI=>avP (fun _ iZ=>?_);have hd1:=hsc1;clear hsc1;rcases hd1 with ⟨vs1,o1,rfl⟩ | ⟨vs1,rfl,rfl⟩
 ·refine adr S 2 [] [(33,.z)] fun S=>apB<|iZ _ _<|av4 S<|awh<|gI _ _<|avP fun _ lY=>adr S 1 [] [(50,v1)] fun S=>avV S (some 51) (wG (cO.below hg S.E) (rowB (o1)) (U3 vs1)) ?_;rintro e u ⟨v2,er2,rfl,hds,uV⟩;refine⟨_,rfl,uV,fun ac S=>?_⟩;obtain⟨rfl,t,rfl,ht,hkt⟩:=H9.back (by decide) (hS0.below S.E) vs1 hds;refine adr S 3 [] [(52,t.v),(53,.i 0)] fun S=>avQ S 7 [.i 0,.i 0,.u 0,.u 0,.u 0,.u 0,.sn] fun ac u b21 IB ab7 S=>avT S 0 (off:=0) (cs:=t.cells) rfl (fun u ZH S=>?_);have IL:=avW (Ext.trans' uV IB) ZH (by have:=uV.size; omega);have Rl:=avW IB ZH (by omega);refine adr S 1 [] [(8,.i 0)] fun S=>apB<|lY _ _<|avP fun _ mV=>adr S 1 [.mem 0 0] [(55,t.v)] fun S=>avV S (some 56) (mP (((eX.below ht Rl))) (cO.below hg S.E)) ?_;rintro e u ⟨v3,er3,rfl,ar4,KY⟩;refine⟨_,rfl,KY,fun ac S=>?_⟩;have g3:=Kq.good ar4 (by rw[hkt]; exact vs1);rw[hkt]at g3;obtain⟨rfl,o3⟩:=g3;refine adr S 5 [] [(9,v3),(10,.i 0)] fun S=>apB<|mV _ _<|awg fun _ pO=>avP fun _ kM=>adr S 5 [.mem 0 0,.mem 2 0] [(61,.z),(62,t.v),(63,s.v)] fun S=>Sx.lW S (some 64) (rC (Qe (((eX.below ht (Ext.trans' Rl KY)))) ((hS0.up (by decide) (by decide)).below S.E)) (awp Value.bool (axg hkt))) ?_;rintro e u ⟨rfl,yM⟩;refine⟨_,rfl,yM,fun ac S=>?_⟩;refine adr S 8 [] [(71,.z),(72,v3)] fun S=>Sx.QN S (src:=49) (dst:=9) (e:=5) (v:=v3) (d:=73) (bs:=dU.app (gZ s.key)) (kZ ((Sx.bU o3 yM))) fun{ac} S=>adr S 1 [] [(74,v1)] fun S=>Sx.QN S (src:=49) (dst:=9) (e:=5) (v:=v1) (d:=75) (bs:=dU.app (gZ s.key)) (kZ ((Sx.bU o1 (Ext.trans' IL (Ext.trans' KY yM))))) fun{ac} S=>adr S 2 [.cmp .neq 9 (.tmp 73) (.tmp 75) (.string ⟨(dU.app (gZ s.key)).toArray⟩) (.string ⟨(dU.app (gZ s.key)).toArray⟩) (.z)] [(77,.z)] (hk:=⟨(Sx.QO (by simp)),trivial⟩) fun S=>apB<|kM _ _<|av4 S<|awh<|pO _ _<|avP fun _ jM=>adr S 1 [.mem 1 0] [(79,d.v)] fun S=>avV S (some 80) (nS (hD0.below S.E) (cO.below hg S.E)) ?_;rintro e u ⟨v4,er4,rfl,hde,E33⟩;refine⟨_,rfl,E33,fun ac S=>?_⟩;refine adr S 5 [] [(11,v4),(12,.i er4)] fun S=>apB<|jM _ _<|awg fun _ qU=>avP (fun _ oD=>?_);have hd4:=hde;clear hde;rcases hd4 with ⟨m1,rfl,rfl⟩ | ⟨m1,m2,m3,rfl,rfl⟩ | ⟨m1,m2,o4,rfl⟩
  ·refine adr S 2 [] [(84,.bool true)] fun S=>apB<|oD _ _<|avX S<|avP fun _ lg=>adr S 4 [] [(88,.bool true)] fun S=>Sx.lW S (some 89) (og (cO.below hg S.E)) ?_;rintro e u ⟨rfl,Jy⟩;refine⟨_,rfl,Jy,fun ac S=>?_⟩;refine adr S 2 [] [(4,.bool true)] fun S=>apB<|lg _ _<|avS S Tryz.results7 ?_;exact⟨rfl,S.E⟩
  ·refine adr S 2 [] [(84,.bool true)] fun S=>apB<|oD _ _<|avX S<|avP fun _ jD=>adr S 4 [] [(88,.bool true)] fun S=>Sx.lW S (some 89) (og (cO.below hg S.E)) ?_;rintro e u ⟨rfl,E39⟩;refine⟨_,rfl,E39,fun ac S=>?_⟩;refine adr S 2 [] [(4,.bool true)] fun S=>apB<|jD _ _<|avS S Tryz.results7 ?_;exact⟨rfl,S.E⟩
  refine adr S 2 [] [(84,.z)] fun S=>apB<|oD _ _<|av4 S<|awh<|qU _ _<|avP fun _ qO=>adr S 1 [] [(92,v4)] fun S=>avV S (some 93) (wS (cO.below hg S.E) (rowB (o4)) (Zo m2)) ?_;rintro e u ⟨v5,er5,rfl,hdd,Iw⟩;refine⟨_,rfl,Iw,fun ac S=>?_⟩;obtain⟨rfl,x,rfl,hx,hkx⟩:=KE.back (by decide) (hD0.below S.E) m1 m2 hdd;refine adr S 3 [] [(94,x.v),(95,.i 0)] fun S=>avQ S 13 (Sx.L [.i 0,.i 0,.i 0,.i 0,.i 0,.i 0,.i 0]++Sx.za++Sx.L [.sn,.i 0,.u 0,.i 0,.z,.z,.sn,.i 0,.sn,.i 0,.i 0,.i 0,.i 0,.sn,.i 0,.sn,.i 0,.i 0,.sn,.i 0,.u 0,.u 0,.u 0,.u 0]) fun ac u b42 E43 avA S=>avT S 0 (off:=0) (cs:=x.cells) rfl (fun u C45 S=>?_);have E46:=avW (Ext.trans' IL (Ext.trans' KY (Ext.trans' yM (Ext.trans' E33 (Ext.trans' Iw E43))))) C45 (by have:=(Ext.trans' IL (Ext.trans' KY (Ext.trans' yM (Ext.trans' E33 Iw)))).size; omega);have E47:=avW (Ext.trans' Rl (Ext.trans' KY (Ext.trans' yM (Ext.trans' E33 (Ext.trans' Iw E43))))) C45 (by have:=(Ext.trans' Rl (Ext.trans' KY (Ext.trans' yM (Ext.trans' E33 Iw)))).size; omega);have Ua:=avW (Ext.trans' yM (Ext.trans' E33 (Ext.trans' Iw E43))) C45 (by have:=(Ext.trans' yM (Ext.trans' E33 Iw)).size; omega);have E49:=avW (Ext.trans' Iw E43) C45 (by have:=Iw.size; omega);have E50:=avW E43 C45 (by omega);refine adr S 1 [] [(14,.i 0)] fun S=>apB<|qO _ _<|avP fun _ ES=>adr S 1 [.mem 0 0] [(97,x.v)] fun S=>avV S (some 98) (nS (((iF.below hx E50))) (cO.below hg S.E)) ?_;rintro e u ⟨v6,er6,rfl,hee,E52⟩;refine⟨_,rfl,E52,fun ac S=>?_⟩;have g6:=Jp.good hee (by rw[hkx]; exact m1) (by rw[hkx]; exact m2);rw[hkx]at g6;obtain⟨rfl,o6⟩:=g6;refine adr S 5 [] [(15,v6),(16,.i 0)] fun S=>apB<|ES _ _<|avP fun _ Uf=>adr S 5 [.mem 0 0,.mem 2 0] [(103,.bool true),(104,x.v),(105,d.v)] fun S=>Sx.lW S (some 106) (rC (Ib (((iF.below hx (Ext.trans' E50 E52)))) ((hD0.up (by decide) (by decide)).below S.E)) (awp Value.bool (axg hkx))) ?_;rintro e u ⟨rfl,E54⟩;refine⟨_,rfl,E54,fun ac S=>?_⟩;refine adr S 7 [] [(112,.bool true),(113,v6)] fun S=>Sx.QN S (src:=49) (dst:=9) (e:=5) (v:=v6) (d:=114) (bs:=dU.app (jV d.key)) (kZ ((Sx.bU o6 E54))) fun{ac} S=>adr S 1 [] [(115,v4)] fun S=>Sx.QN S (src:=49) (dst:=9) (e:=5) (v:=v4) (d:=116) (bs:=dU.app (jV d.key)) (kZ ((Sx.bU o4 (Ext.trans' E49 (Ext.trans' E52 E54))))) fun{ac} S=>adr S 3 [.cmp .eql 9 (.tmp 114) (.tmp 116) (.string ⟨(dU.app (jV d.key)).toArray⟩) (.string ⟨(dU.app (jV d.key)).toArray⟩) (.bool true)] [(119,.bool true)] (hk:=⟨(Sx.Xc (by simp)),trivial⟩) fun S=>Sx.lW S (some 120) (og (cO.below hg S.E)) ?_;rintro e u ⟨rfl,Ud⟩;refine⟨_,rfl,Ud,fun ac S=>?_⟩;refine adr S 2 [] [(4,.bool true)] fun S=>apB<|Uf _ _<|avS S Tryz.results7 ?_;exact⟨rfl,S.E⟩
 refine adr S 2 [] [(33,.bool true)] fun S=>apB<|iZ _ _<|avX S<|avP fun _ zB=>adr S 4 [.mem 1 0] [(36,.bool true),(37,s.v)] fun S=>Sx.lW S (some 38) (rC (sJ (hS0.below S.E) (cO.below hg S.E)) (awp Value.bool vs1)) ?_;rintro e u ⟨rfl,E57⟩;refine⟨_,rfl,E57,fun ac S=>?_⟩;refine adr S 8 [] [(46,.bool true)] fun S=>Sx.lW S (some 47) (og (cO.below hg S.E)) ?_;rintro e u ⟨rfl,E58⟩;refine⟨_,rfl,E58,fun ac S=>?_⟩;refine adr S 2 [] [(4,.bool true)] fun S=>apB<|zB _ _<|avS S Tryz.results7 ?_;exact⟨rfl,S.E⟩
end
end Go.Proofs.YtapmgonflgahbaaGreatDoor
