/- Scenes and edits that came in. Decoding: open in -/
import Derived.Test.YtapmgonflgahbaaGreatDoorOpn36
import Derived.Test.YtapmgonflgahbaaGreatDoorPk37
set_option linter.unusedVariables false
namespace Go.Proofs.YtapmgonflgahbaaGreatDoor
section
open Go.RowKit Go.ChangeShapes Go.WideShapes
variable{α:Type}
section
variable{H:Type}{enc:TypeId×Value→H}{W:World}{sp:Nat→Bool}{held:Bool}{n:Nat}{cs:List Value}{y:DataW H×List MemPlace}
set_option maxRecDepth 100000
def bC.ok(W:World)(s:bC):Prop:=I64 s.w∧I64 s.h∧aN 47 aA.cells W s.s s.ns∧∀n∈s.ns,n.ok W
theorem RN(h:DataW.trod enc Tryz.prog W 0 sp held n 26 cs=some y):∃m:bC,cs=m.cells∧m.ok W:=by
 obtain⟨xs,n',rfl,hx,hl,hlen,hg⟩:=ajv Tryz.underlying26 h;have hl:cs.length=7:=hl.trans (by kernel_rfl);obtain⟨x0,c0,w0⟩:=dX Tryz.underlying3 (jT (cs:=cs) (off:=0) (k:=1) (hg 0 _ rfl) hlen (by decide) (by kernel_rfl)).choose_spec;obtain⟨x1,c1,w1⟩:=dX Tryz.underlying3 (jT (cs:=cs) (off:=1) (k:=1) (hg 1 _ rfl) hlen (by decide) (by kernel_rfl)).choose_spec;obtain⟨m2,c2⟩:=yB (jT (cs:=cs) (off:=2) (k:=4) (hg 2 _ rfl) hlen (by decide) (by kernel_rfl)).choose_spec;obtain⟨a3,k3,l3,c3,r3,w3⟩:=nH (k:=47) Tryz.underlying24 (by decide) (by kernel_rfl) aA.cells (fun n=>n.ok W) (fun n cs y h=>Ja h) (jT (cs:=cs) (off:=6) (k:=1) (hg 3 _ rfl) hlen (by decide) (by kernel_rfl)).choose_spec;have hc:=(show cs=(cs.drop 0).take 7 by rw[ai9,aiC (by omega)]).trans ((aP cs 0 1 1 6 7 rfl rfl).trans (aic _ ((aP cs 1 1 2 5 6 rfl rfl).trans (aic _ (aP cs 2 4 6 1 5 rfl rfl)))));rw[c0,c1,c2,c3]at hc;exact⟨⟨x0,x1,m2,a3,k3,l3⟩,hc.trans (by kernel_rfl),w0,w1,r3,w3⟩
theorem wu{base:Nat}{v:Value}{d:DataW H}{p:List MemPlace}(hv:Value.okWide Tryz.prog W .any base 26 v)(h:DataW.Trod enc Tryz.prog W 0 sp held 26 v d p):∃m:bC,v=m.v∧m.ok W:=by
 obtain⟨cs,rfl,hsz⟩:=okWide_struct Tryz.underlying26 hv;obtain⟨fuel,hf⟩:=h;obtain⟨l⟩:=cs;obtain⟨m,hm,ho⟩:=RN (cs:=l) (y:=(d,p)) hf;exact⟨m,by rw[hm]; rfl,ho⟩
end
end
section
set_option maxHeartbeats 1600000
set_option maxRecDepth 100000
open Go.RowKit
variable{α:Type}{K:Nat}
def Ver(l m:List UInt8)(k:Int):Prop:=(k=4∧l.length<4)∨(k=19∧4≤l.length∧∀m',l≠dL.app m')∨(k=0∧l=dL.app m)
theorem WI{w:World}{v:Value}{l:List UInt8}(h:kZ w v l)(hl:l.length≤100000000) :
  Calls Tryz.prog 101 #[v] w fun e w'=>∃v' m k,e = .returned (.tuple #[v',.i k])∧kZ w' v' m∧Ext w w'∧Ver l m k:=by
 rcases aiP l.length 4 with h4 | h4
 ·refine(Gv v l w (gY h) h4).mono ?_;rintro e w' ⟨rfl,rfl⟩;exact⟨_,[],_,rfl,jC _ _ _,Ext.rfl',.inl ⟨rfl,h4⟩⟩
 refine(zf v l (l.length-4) w (gY h) (by omega) (by omega)).mono ?_;rintro e w' ⟨v',k,rfl,hE,h1,h2⟩;by_cases hd:l.drop (l.length-4)=dL.le4 (dL.update 0 (l.take (l.length-4)))
 ·obtain⟨rfl,hb⟩:=h1 hd;exact⟨v',_,_,rfl,xE hb,hE,.inr (.inr ⟨rfl,by unfold dL.app; rw[←hd,ajZ]⟩)⟩
 obtain⟨rfl,rfl⟩:=h2 hd;refine⟨_,[],_,rfl,jC _ _ _,hE,.inr (.inl ⟨rfl,h4,fun m' e=>hd ?_⟩)⟩;have hm:l.length-4=m'.length:=by rw[e,pG]; omega
 rw[hm,e]; unfold dL.app; rw[List.take_left,List.drop_left]
theorem Ver.le{l m:List UInt8}{k:Int}(h:Ver l m k)(h0:k=0):l=dL.app m:=by rcases h with ⟨rfl,-⟩ | ⟨rfl,-⟩ | ⟨-,h⟩; (cases h0); (cases h0); exact h
def Opn(w w':World)(l M:List UInt8)(pv:Value)(er:Int):Prop:=
 (er≠0∧pv = .pointer none∧((er=4∧l.length<4)∨(er=19∧4≤l.length∧∀m,l≠dL.app m)∨(er=3∧∃m,l=dL.app m∧¬m.take 3=M))) ∨
 (er=0∧∃m b a1 c1 wm,l=dL.app m∧m.take 3=M∧pv = .q b 0∧Ext w wm∧kZ wm (.slice a1 m.length c1) m∧wm.heap.size≤b∧Ext wm w'∧Bx w' b #[.slice a1 m.length c1,.i (3:Nat),.z,.z])
theorem RP{w:World}{v:Value}{l:List UInt8}{c0 c1' c2:UInt8}(h:kZ w v l)(hl:l.length≤60000000) :
  Calls Tryz.prog 49 #[v,.string ⟨#[c0,c1',c2]⟩] w fun e w'=>∃pv er,e = .returned (.tuple #[pv,.i er])∧Ext w w'∧Opn w w' l [c0,c1',c2] pv er:=by
 replace hl:l.length≤100000000:=by omega
 obtain⟨a,cap,rfl⟩:=h.shape;refine ahO Tryz.func49 Tryz.ntmps49 fun ac S=>ahK fun _ aY=>adr S 2 [] [(4,(.pointer none)),(5,.i 0)] fun S=>ahJ<|aY _ _<|ahK fun _ fA=>adr S 1 [] [(9,.slice a l.length cap)] fun S=>ahQ S (some 10) (WI h hl) ?_;rintro e u ⟨v1,m,er,rfl,hv1,E3,acg⟩;obtain⟨a1,c1,rfl⟩:=hv1.shape;refine⟨_,rfl,E3,fun ac S=>?_⟩;obtain⟨wm,hwm⟩:∃x,x=u:=⟨_,rfl⟩;have hbm:kZ wm (.slice a1 m.length c1) m:=hwm▸hv1;have ab4:Ext w wm:=hwm▸S.E;have hEm:Ext wm u:=hwm▸Ext.rfl';clear hwm;refine adr S 5 [] [(6,.slice a1 m.length c1),(7,.i er)] fun S=>ahJ<|fA _ _<|ah2 fun _ nT=>ahK fun _ dw=>adr S 2 [] [(14,.bool ((er) != 0))] fun S=>ahJ (dw _ _ ?_);refine ahN S (fun hc6=>?_) (fun hc6=>?_)
 ·refine ahK fun _ iL=>adr S 3 [] [(4,(.pointer none)),(5,.i er)] fun S=>ahJ<|iL _ _<|Sx.rt2 S Tryz.results49 ?_;refine⟨_,_,rfl,S.E,.inl ⟨fun e=>by rw[e]at hc6; simp at hc6,rfl,?_⟩⟩;rcases acg with h1 | h1 | ⟨h1,-⟩; (exact .inl h1); (exact .inr (.inl h1)); rw[h1]at hc6; simp at hc6
 refine ah4<|nT _ _<|ah2 fun _ dR=>ahK fun _ iD=>adr S 2 [] [(16,.slice a1 m.length c1),(17,.string ⟨#[c0,c1',c2]⟩)] fun S=>Sx.bytesOf S 18 [c0,c1',c2] Tryz.underlying9 Tryz.underlying49 Tryz.underlying5 (by simp[maxLen]) fun{ac u b12 c13} Nw agl S=>ahS S 19 (uZ (w:=u) (aN.below hbm ((Ext.trans' hEm Nw))) ((xE agl))) fun ac u yO S=>adr S 1 [] [(20,.bool (!(decide ([c0,c1',c2].length≤m.length)&&(m.take [c0,c1',c2].length==[c0,c1',c2]))))] fun S=>ahJ (iD _ _ ?_);refine ahN S (fun uM=>?_) (fun uM=>?_)
 ·refine ahK fun _ jQ=>adr S 2 [] [(4,(.pointer none)),(5,.i 3)] fun S=>ahJ<|jQ _ _<|aii ?_;have hez:er=0:=by have:=hc6; simpa using this
  have hla:=acg.le hez;refine Sx.xq S Tryz.results49 ?_;exact⟨_,_,rfl,S.E,.inl ⟨by decide,rfl,.inr (.inr ⟨rfl,m,hla,fun e=>by have e:m.take 3=[c0,c1',c2]:=e; have e2:=aic List.length e; have:=uM; simp[e]at this; simp at e2; omega⟩)⟩⟩
 refine ah4<|dR _ _<|ahK (fun _ iq=>?_);have hws:=(((Ext.trans' hEm (Ext.trans' Nw yO)))).size;refine adr S 4 [] [(24,.agg #[.slice a1 m.length c1,.i 3,.z,.z])] fun S=>ahL S 25 [.slice a1 m.length c1,.i 3,.z,.z] fun ac u b18 Dz VH S=>adr S 2 [] [(4,.q b18 0),(5,.i 0)] fun S=>ahJ<|iq _ _<|aii ?_;have hez:er=0:=by have:=hc6; simpa using this
 have hla:=acg.le hez;refine Sx.xq S Tryz.results49 ?_;exact⟨_,_,rfl,S.E,.inr ⟨rfl,m,_,_,_,wm,hla,by have:=uM; simp at this; exact this.2,rfl,ab4,hbm,by have:=VH; omega,((Ext.trans' hEm (Ext.trans' Nw (Ext.trans' yO Dz)))),S.bx 0⟩⟩
theorem JQ{w:World}{v:Value}{l:List UInt8}{c0 c1' c2:UInt8}(h:kZ w v l)(hl:l.length≤60000000)(hne:∀m,l≠dL.app m) :
  Calls Tryz.prog 49 #[v,.string ⟨#[c0,c1',c2]⟩] w fun e w'=>∃er,e = .returned (.tuple #[.pointer none,.i er])∧er≠0∧(er=4∧l.length<4∨er=19∧4≤l.length)∧Ext w w':=by
 refine(RP h hl).mono ?_;rintro e w' ⟨pv,er,rfl,hE,⟨h0,rfl,h1⟩ | ⟨-,m,-,-,-,-,h1,-⟩⟩
 ·refine⟨er,rfl,h0,?_,hE⟩;rcases h1 with h1 | ⟨h1,h2,-⟩ | ⟨-,m,h1,-⟩
  ·exact .inl h1
  ·exact .inr ⟨h1,h2⟩
  exact absurd h1 (hne m)
 exact absurd h1 (hne m)
theorem CG{w:World}{v:Value}{l:List UInt8}(h:kZ w v l)(hl:l.length≤60000000)(hne:∀m,l≠dL.app m) :
  Calls Tryz.prog 18 #[v] w fun e w'=>∃er,e = .returned (.tuple #[bC.zero.v,.i er])∧(er=4∧l.length<4∨er=19∧4≤l.length)∧Ext w w':=by
 obtain⟨a,cap,rfl⟩:=h.shape;refine ahO Tryz.func18 Tryz.ntmps18 fun ac S=>ahK fun _ aY=>ahL S 2 [.i 0,.i 0,.u 0,.u 0,.u 0,.u 0,.sn] fun ac u b2 E3 hb4 S=>adr S 1 [] [(3,.i 0)] fun S=>ahJ<|aY _ _<|ahK fun _ dw=>adr S 1 [] [(9,.slice a l.length cap)] fun S=>ahQ S (some 10) (JQ (c0:=71) (c1':=83) (c2:=49) (aN.below h S.E) hl hne) ?_;rintro e u ⟨er,rfl,h0,h1,E6⟩;refine⟨_,rfl,E6,fun ac S=>?_⟩;refine adr S 5 [] [(4,.pointer none),(5,.i er)] fun S=>ahJ<|dw _ _<|ah2 fun _ iL=>ahK fun _ dR=>adr S 2 [] [(14,.bool ((er) != 0))] fun S=>ahJ (dR _ _ ?_);refine ahN S (fun hc9=>?_) (fun hc9=>?_)
 ·refine ahK fun _ gu=>adr S 2 [] [(15,.agg #[.i 0,.i 0,.u 0,.u 0,.u 0,.u 0,.sn]),(16,.i er)] fun S=>ahP S 0 (off:=0) (cs:=[.i 0,.i 0,.u 0,.u 0,.u 0,.u 0,.sn]) rfl fun u C11 S=>adr S 1 [] [(3,.i er)] fun S=>ahJ<|gu _ _<|aii ?_;refine Sx.WG S 0 Tryz.results18 rfl (v:=bC.zero.v) (u := .i er) ⟨er,rfl,h1,S.E⟩
 exact absurd (by have:=hc9; simpa using this) h0
end
section
def flip(c:List UInt8)(k:Nat):List UInt8:=c.set (k/8) (c.getD (k/8) 0^^^(1<<<UInt8.ofNat (k%8)))
def flips(c:List UInt8)(m t:Nat):Nat→List UInt8
 | 0=>c
 | i+1=>if t.testBit i&&decide (m+i<8*c.length)then flip (flips c m t i) (m+i)else flips c m t i
theorem nI(c:List UInt8)(m t i:Nat):(flips c m t i).length=c.length:=by
 induction i with
 | zero=>rfl
 | succ i ih=>unfold flips; split<;>simp[flip,ih]
theorem RQ(j:Nat)(h:j<8):(2:Int)^j%256=(((1:UInt8)<<<UInt8.ofNat j).toNat:Int):=by
 have:∀j,j<8→(2:Int)^j%256=(((1:UInt8)<<<UInt8.ofNat j).toNat:Int):=by decide
 exact this j h
theorem Ze(a b:Nat)(ha:a<8)(hb:b<8):((1:UInt8)<<<UInt8.ofNat a).toNat.testBit b=decide (b=a):=by
 have:∀a,a<8→∀b,b<8→((1:UInt8)<<<UInt8.ofNat a).toNat.testBit b=decide (b=a):=by decide
 exact this a ha b hb
theorem RS(c:List UInt8)(k:Nat)(hk:k<8*c.length)(j:Nat):(dL.bits (flip c k)).getD j false=((dL.bits c).getD j false ^^ decide (j=k)):=by
 rw[dL.JF,dL.JF];unfold flip;by_cases h:j/8=k/8
 ·have e:(c.set (k/8) (c.getD (k/8) 0^^^(1<<<UInt8.ofNat (k%8)))).getD (j/8) 0=c.getD (k/8) 0^^^(1<<<UInt8.ofNat (k%8)):=by
   rw[h]; simp[List.getD,show k/8<c.length by omega]
  rw[e,UInt8.toNat_xor,Nat.testBit_xor,Ze _ _ (ai3 _ (by omega)) (ai3 _ (by omega)),h];congr 1;rw[ai4,akh,akh]; omega
 have e:(c.set (k/8) (c.getD (k/8) 0^^^(1<<<UInt8.ofNat (k%8)))).getD (j/8) 0=c.getD (j/8) 0:=by
  simp[List.getD,show ¬k/8=j/8 by omega]
 rw[e];have:¬j=k:=by intro e; exact h (by rw[e])
 simp[this]
theorem MV(c:List UInt8)(m t i j:Nat)(hj:j<8*c.length) :
  (dL.bits (flips c m t i)).getD j false=((dL.bits c).getD j false ^^ (decide (m≤j∧j<m+i)&&t.testBit (j-m))):=by
 induction i with
 | zero =>
  have:¬(m≤j∧j<m+0):=by omega
  simp only[flips]; rw[ajx this]; simp
 | succ i ih =>
  unfold flips;have hl:=nI c m t i;by_cases hk:t.testBit i=true∧m+i<8*c.length
  ·rw[aib (by simp[hk.1,hk.2]),RS _ _ (by rw[hl]; exact hk.2),ih];by_cases e:j=m+i
   ·subst e;simp[hk.1]
   have e1:decide (m≤j∧j<m+(i+1))=decide (m≤j∧j<m+i):=by
    rw[ai4,akh,akh]; omega
   simp[e,e1]
  rw[ah7 (by simpa using hk),ih];by_cases e:j=m+i
  ·subst e;have:t.testBit i=false:=by
    cases h:t.testBit i
    ·rfl
    exact(hk ⟨h,hj⟩).elim
   simp[this]
  have e1:decide (m≤j∧j<m+(i+1))=decide (m≤j∧j<m+i):=by
   rw[ai4,akh,akh]; omega
  simp[e1]
theorem WJ(c:List UInt8)(m t i:Nat)(h1:t.testBit i=true)(h2:m+i<8*c.length):flips c m t (i+1)=flip (flips c m t i) (m+i):=by
 conv=>lhs; unfold flips
 rw[aib (by simp[h1,h2])]
theorem RU(c:List UInt8)(m t i:Nat)(h:¬(t.testBit i=true∧m+i<8*c.length)):flips c m t (i+1)=flips c m t i:=by
 conv=>lhs; unfold flips
 rw[ah7 (by simpa using h)]
theorem Zf(t:UInt32)(ht:t≠0):∃i,i<32∧t.toNat.testBit i=true:=by
 have h0:t.toNat≠0:=fun h=>ht (aiS.1 (by rw[h]; rfl));obtain⟨i,hi⟩:=Nat.exists_testBit_of_ne_zero h0;refine⟨i,?_,hi⟩;rcases aiP i 32 with h | h
 ·exact h
 have h2:=t.toNat_lt;have:=Nat.testBit_lt_two_pow (x:=t.toNat) (i:=i) (aiG h2 (aiV (by decide) h));rw[this]at hi; cases hi
theorem RV(l:List UInt8)(m:Nat)(t:UInt32)(ht:t≠0)(hm:m+32≤8*(l.length+4))(m':List UInt8):flips (dL.app l) m t.toNat 32≠dL.app m':=fun e=>by
 have hl:(flips (dL.app l) m t.toNat 32).length=l.length+4:=by rw[nI,pG]
 have hm':m'.length=l.length:=by rw[e,pG]at hl; omega
 obtain⟨i,hi,hb⟩:=Zf t ht;refine dL.Cc l _ hl m t.toNat (fun j hj=>?_) ⟨i,hi,hb,by omega⟩ ?_
 ·exact MV (dL.app l) m t.toNat 32 j (by rw[pG]; exact hj)
 rw[e,←hm']; unfold dL.app; rw[List.drop_left,List.take_left]
end
end Go.Proofs.YtapmgonflgahbaaGreatDoor
section
namespace Go.Sx
open Go.Proofs Go.Proofs.YtapmgonflgahbaaGreatDoor Go.RowKit Go.Rel
section
variable{P:Program}{ops:Array Oper}{Q:Exit→Act→World→Prop}{w0 w:World}{a:Act}{os:List Oper}{n:Nat}{l:List (Nat×Value)}{bl:List (Nat×List Value)}{vs:List fG}{rs:List Row}
abbrev bR (v:Value)(B:List UInt8):Row:=⟨5,1,v,B.length,B.map dQ⟩
theorem vP{v:Value}{B:List UInt8}(S:St w0 a w n l bl vs)(R:Rw w0 w bl (bR v B::rs))(d:Nat){y:Value}(Y:List UInt8)(hy:dS w 1 y Y.length (Y.map dQ))(hb:(B++Y).length≤100000000000)
  (next:∀a' w' v',Stp (Ob bl (bR v B::rs)) w (Ob bl (bR v' (B++Y)::rs)) w'→Rw w0 w' bl (bR v' (B++Y)::rs)→St w0 a' w' n ((d,v')::l) bl []→wpList Tryz.prog ops Q (os.drop 1) a' w')
  (hx:Jc os l=some (49,v,y,some d):=by kernel_rfl) (hd:zH n (some d)=true:=by rfl):wpList Tryz.prog ops Q os a w:=by
 rw[aif]at hb;refine app S R 0 d rfl pY hy (by show B.length+Y.length≤9223372036854775807; omega) (by show(B.length+Y.length)*1≤140737488355328; omega) (fun a' w' v' X R S=>?_) hx hd;have e:(⟨5,1,v',B.length+Y.length,B.map dQ++Y.map dQ⟩:Row)=bR v' (B++Y):=by simp[bR]
 have X:Stp (Ob bl (bR v B::rs)) w (Ob bl ((⟨5,1,v',B.length+Y.length,B.map dQ++Y.map dQ⟩:Row)::rs)) w':=X;have R:Rw w0 w' bl ((⟨5,1,v',B.length+Y.length,B.map dQ++Y.map dQ⟩:Row)::rs):=R;rw[e]at X R;exact next a' w' v' X R S
theorem Ei(S:St w0 a w n l bl vs){f:FuncId}{args:Array Value}{R:Ending→World→Prop}(d:Option Nat)(hc:Calls P f args w R)
  (next:∀e w',R e w'→∃V,e = .returned V∧Ext w0 w'∧∀a',St w0 a' w' n (JA l d V) [] []→wpList P ops Q (os.drop 1) a' w') (hx:callOf P os l=some (f,args,d):=by kernel_rfl) (hd:zH n d=true:=by rfl):wpList P ops Q os a w:=by
 cases os with
 | nil=>cases hx
 | cons o os =>
  unfold callOf at hx;simp only at hx;split at hx
  ·rename_i f' args' hg hav hev;simp only[ah8,aie]at hx;obtain⟨rfl,rfl,rfl⟩:=hx;simp only[aiX]at hav;have hrun:(execOp a.eval o).run P w = .ok (.enter f' args') w:=mO (Std.act a) (iR (bU S.s) o) (p:=[]) rfl hav.1 (by simpa using hav.2) hev;unfold wpList;rw[aib (by simp[Region.wanted,hg])];left;unfold Oper.wp;rw[hrun];simp only[Oper.upon];refine hc.mono fun e w' hR=>?_;obtain⟨V,rfl,hE,next⟩:=next e w' hR;exact next _ ⟨vY S.s hd V,hE,fun p hp=>(by cases hp),List.nodup_nil,fun m hm=>by cases hm⟩
  cases hx
theorem vN{f:FuncId}{fn:Func}{c:Code}{args:List Value}{R:Ending→World→Prop}{n:Nat}(hf:P.funcs[f]?=some fn)(hn:fn.ntmps=n)(hE:Ext w0 w)
  (h:∀a,St w0 a w n ((List.range args.length).zip args) [] []→c.wp P (bodyPost P fn R) a w) (hb':fn.body=some c:=by rfl) (hsz:decide (args.length≤n)=true:=by kernel_rfl):Calls P f args.toArray w R:=
 Vp.enter hf hb' (by rw[hn]; simpa using hsz) fun a s=>h a ⟨(by rw[hn]at s; simpa using s),hE,fun p hp=>(by cases hp),List.nodup_nil,fun m hm=>by cases hm⟩
end
theorem Yg{α:Type}{f:α→List Value}{k:Nat}{w:World}{b:Nat}(L:List α)(hf:∀x,(f x).length=k)(hx:Bx w b (L.flatMap f).toArray)(hl:L.length≤maxLen):aN k f w (.slice (some ⟨b,0,none⟩) L.length L.length) L:=
 ⟨_,_,rfl,hl,.inr ⟨b,0,rfl,hx.1,ah9 _,fun i hi j hj=>by
  have:=hx.2.1 (0+i*k+j)
  rw[ai0]at this ⊢
  rw[this,←pz hf L i hi j hj]; simp⟩⟩
end Go.Sx
namespace Go.Proofs.YtapmgonflgahbaaGreatDoor
open Go.RowKit
theorem qN{base:Nat}{L:List Int}{v:Value}{w:World}(h:Sx.gV base (L.map fun x => .i x) (some L.length) v w)(hl:L.length≤maxLen):Wx w v L:=by
 obtain⟨b,rfl,-,hx⟩:=h;exact Sx.iW (f:=fun x:Int => .i x) L hx hl
def pW:List Int→Prop
 | []=>True
 | x::L=>I64 x∧pW L
theorem pW.all:∀{L:List Int},pW L→∀x∈L,I64 x
 | _::_,h,x,hx=>by
  rcases aip.1 hx with rfl | hx
  ·exact h.1
  ·exact pW.all h.2 x hx
theorem jZ{w0 w:World}{base:Nat}{v:Value}{B:List UInt8}{bl:List (Nat×List Value)}(R:Sx.Rw w0 w bl [])(h:OwnB base w v B)(hb:∀p∈bl,p.1<base)(h0:w0.heap.size≤base):Sx.Rw w0 w bl [Sx.bR v B]:=
 R.add h (fun b hb'=>by
  simp only[Sx.Ob,List.filterMap_nil,ajS]at hb'
  obtain⟨p,hp,rfl⟩:=aiR.1 hb'
  exact hb p hp) h0
end Go.Proofs.YtapmgonflgahbaaGreatDoor
end
theorem ahZ:type_of% @Go.Sx.vP:=@Go.Sx.vP
