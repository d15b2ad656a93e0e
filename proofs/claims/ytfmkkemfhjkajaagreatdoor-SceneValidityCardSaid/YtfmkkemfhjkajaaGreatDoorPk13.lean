/- Walks of package rational by value. Transforms by value: -/
import Derived.Test.YtfmkkemfhjkajaaGreatDoorPk9
import Derived.Test.YtfmkkemfhjkajaaGreatDoorIntW
import Derived.Test.YtfmkkemfhjkajaaGreatDoorProg
set_option linter.unusedVariables false
namespace Go.Proofs.YtfmkkemfhjkajaaGreatDoor
section
set_option maxHeartbeats 1600000
set_option maxRecDepth 100000
open Go.RowKit
variable{α:Type}
theorem aA.bT{base:Nat}{w w':World}{v:Value}{neg:Bool}{a b c:Nat}{A:Array Value}(h:aA base w v neg a b)(hc:Ch c w w')(hx:Bx w c A)(hA:A.toList.all yG=true:=by rfl):aA base w' v neg a b:=by
 obtain⟨s,t,rfl,hs,ht,fs,ft⟩:=h
 exact⟨s,t,rfl,hs.ch hc (hx.off (Ak hA) hs),ht.ch hc (hx.off (Ak hA) ht),fs,ft⟩
theorem _root_.Go.Sx.ae1{P:Program}{w0 w:World}{a:Act}{n:Nat}{l:List (Nat×Value)}{bl:List (Nat×List Value)}{vs:List Sx.iG}(S:Sx.St w0 a w n l bl vs){fn:Func}{R:Ending→World→Prop}(i j k:Nat){r s t b c d:Nat}{ty:TypeId}{A B C:List Value}{u v x:Value}(hr:fn.results = #[.cell r ty,.cell s ty,.cell t ty])(hi:bl[i]?=some (b,A))(hj:bl[j]?=some (c,B))(hk:bl[k]?=some (d,C))(h:R (.returned (.tuple #[u,v,x])) w)
  (h1:Vp.ev l (.tmp r)=some (.pointer (some ⟨b,0,none⟩)):=by kernel_rfl) (h2:Vp.ev l (.tmp s)=some (.pointer (some ⟨c,0,none⟩)):=by kernel_rfl) (h3:Vp.ev l (.tmp t)=some (.pointer (some ⟨d,0,none⟩)):=by kernel_rfl) (l1:Sx.ldv P ty A=some u:=by kernel_rfl) (l2:Sx.ldv P ty B=some v:=by kernel_rfl) (l3:Sx.ldv P ty C=some x:=by kernel_rfl):bodyPost P fn R .ret a w:=by
 refine⟨S.s.defers,_,?_,h⟩
 have e1:=S.s.ev h1
 have e2:=S.s.ev h2
 have e3:=S.s.ev h3
 unfold results
 rw[hr]
 simp only[Act.eval,Array.getD_eq_getD_getElem?]at e1 e2 e3
 simp[e1,e2,e3,asAddr,S.var hi l1,S.var hj l2,S.var hk l3]
theorem Az{f:FuncId}{args:Array Value}{w:World}{a b:Nat}(h:Calls Tryz.prog f args w fun e w'=>e = .returned (.int .i64 ((bl a:Nat):Int))∧Ext w w')(hv:a=b):Calls Tryz.prog f args w fun e w'=>e = .returned (.int .i64 ((bl b:Nat):Int))∧Ext w w':=hv▸h
theorem jC(v:Value)(q:Bool×Nat×Nat)(K:Nat)(w:World)(h:cO K w v q)(hK:K≤1000000) :
  Calls Tryz.prog 180 #[v] w fun e w'=>∃x,e = .returned x∧bH w.heap.size w' x q∧Ext w w':=by
 obtain⟨n1,s1,l1,n2,s2,l2,rfl,h1,h2,h3,h4,rfl⟩:=h
 exact BL n1 n2 s1 s2 l1 l2 w h1 h2 (by omega) (by omega)
theorem NT(v1 v2:Value)(z:Int)(d K:Nat)(w:World)(h1:eP K w v1 z)(h2:eP K w v2 (d:Int))(hd:0<d)(hK:K≤1000000) :
  Calls Tryz.prog 222 #[v1,v2] w fun e w'=>∃x,e = .returned x∧bH w.heap.size w' x (nz z d)∧Ext w w':=by
 obtain⟨n1,s1,l,rfl,h1,hl,rfl⟩:=h1
 obtain⟨n2,s2,m,rfl,h2,hm,hz⟩:=h2
 obtain⟨rfl,rfl⟩:n2=false∧Na.val m=d:=by
  unfold zv at hz
  cases n2
  ·simp only[Bool.false_eq_true,if_false]at hz; exact⟨rfl,by omega⟩
  ·simp only[if_true]at hz; omega
 have h:=FD n1 false s1 s2 l m w h1 h2 hd (by omega) (by omega)
 rw[←Y8]
 unfold nrm
 rw[if_neg (by omega)]
 exact h
theorem FH(v1 v2:Value)(q1 q2:Bool×Nat×Nat)(K1 K2:Nat)(w:World)(h1:cO K1 w v1 q1)(h2:cO K2 w v2 q2)(hK1:1≤K1)(hK2:1≤K2)(hM1:K1≤100000)(hM2:K2≤100000) :
  Calls Tryz.prog 181 #[v1,v2] w fun e w'=>∃x y d,e = .returned (.tuple #[x,y,d])∧oI w.heap.size w' x (qz q1*(q2.2.2:Int))∧oI w.heap.size w' y (qz q2*(q1.2.2:Int))∧oI w.heap.size w' d ((q1.2.2:Int)*(q2.2.2:Int))∧Ext w w':=by
 obtain⟨n1,a1,m1,c1,o1,CQ,k1,d1,rfl⟩:=h1.shape
 have su:=h1.len hK1
 have Ua:=h1.pos
 obtain⟨n2,a2,m2,c2,o2,NU,k2,d2,rfl⟩:=h2.shape
 have uP:=h2.len hK2
 have HP2:=h2.pos
 refine aiK Tryz.func181 Tryz.ntmps181 fun ac S=>aiG fun _ aU=>aiJ S 2 [.bool n1,.slice a1 m1 c1,.bool o1,.slice CQ k1 d1] fun ac u b2 E3 hb4 S=>aiJ S 3 [.bool n2,.slice a2 m2 c2,.bool o2,.slice NU k2 d2] fun ac u b5 E6 hb7 S=>aiJ S 4 [.bool false,.slice none 0 0] fun ac u b8 E9 yC S=>aiJ S 5 [.bool false,.slice none 0 0] fun ac u b11 H6 ac4 S=>aiJ S 6 [.bool false,.slice none 0 0] fun ac u b14 Vb hb16 S=>aiF<|aU _ _<|wp_seq_k fun _ ig=>aiV S 4 [(8,fun v w1=>bH w.heap.size w1 v q1),(10,fun v w1=>bH w.heap.size w1 v q2)] (fun r=>[.mem 4 0,.mem 3 0]) (fun x=>[x 8,x 10]) (fun x=>[(_,_,true,x 8,8),(_,_,true,x 10,10)]) [[],[]] (fun x=>[(8,x 8),(10,x 10)]) ⟨fun _ _ _ k h=>aA.ext h k,fun _ _ _ k h=>aA.ext h k,trivial⟩ (fun x=>⟨by intro u hC g F; exact(jC _ q1 K1 _ (h1.below (Ext.trans' S.E hC)) (by omega)).mono fun e w2 h=>by obtain⟨x,rfl,hx,hb⟩:=h; exact⟨_,rfl,hx.mono ((Ext.trans' S.E hC)).size,hb⟩,by intro u hC g F; exact(jC _ q2 K2 _ (h2.below (Ext.trans' S.E hC)) (by omega)).mono fun e w2 h=>by obtain⟨x,rfl,hx,hb⟩:=h; exact⟨_,rfl,hx.mono ((Ext.trans' S.E hC)).size,hb⟩,trivial⟩) (fun ac u x JD F S=>?_)
 obtain⟨F8,F10,-⟩:=F
 obtain⟨x1,e1,y1,f1,em⟩:=aA.shape F8
 rw[em]at S F8
 obtain⟨x2,e2,y2,f2,em⟩:=aA.shape F10
 rw[em]at S F10
 have X20:=S.bx 4
 refine aiL S 4 (off:=0) (cs:=[.bool q1.1,.slice x1 (Na.au q1.2.1).length e1,.bool false,.slice y1 (Na.au q1.2.2).length f1]) rfl (fun u VZ S=>?_)
 have Qb:=aA.bT F8 VZ X20
 have y8:=aA.bT F10 VZ X20
 have Ub:=S.bx 3
 refine aiL S 3 (off:=0) (cs:=[.bool q2.1,.slice x2 (Na.au q2.2.1).length e2,.bool false,.slice y2 (Na.au q2.2.2).length f2]) rfl (fun u Uc S=>?_)
 have uf:=aA.bT Qb Uc Ub
 have yD:=aA.bT y8 Uc Ub
 refine aiF<|ig _ _<|wp_seq_k fun _ lJ=>aiV S 15 [(15,fun v w1=>oI w.heap.size w1 v (qz q1*(q2.2.2:Int))),(20,fun v w1=>oI w.heap.size w1 v (qz q2*(q1.2.2:Int))),(25,fun v w1=>oI w.heap.size w1 v ((q1.2.2:Int)*(q2.2.2:Int)))] (fun r=>[.mem 4 0,.mem 3 2,.mem 3 0,.mem 4 2,.mem 4 2,.mem 3 2]) (fun x=>[x 15,x 20,x 25]) (fun x=>[(_,_,true,x 15,15),(_,_,true,x 20,20),(_,_,true,x 25,25)]) [[],[],[]] (fun x=>[(15,x 15),(20,x 20),(25,x 25)]) ⟨fun _ _ _ k h=>aQ.ext h k,fun _ _ _ k h=>aQ.ext h k,fun _ _ _ k h=>aQ.ext h k,trivial⟩ (fun x=>⟨by intro u hC g F; exact(rF _ _ _ _ _ _ _ (((uf.ext hC)).parts' su).1 (((yD.ext hC)).parts' uP).2 (by omega) (by omega)).mono fun e w2 h=>by obtain⟨x,rfl,hx,hb⟩:=h; exact⟨_,rfl,hx.mono ((Ext.trans' S.E hC)).size,hb⟩,by intro u hC g F; exact(rF _ _ _ _ _ _ _ (((yD.ext hC)).parts' uP).1 (((uf.ext hC)).parts' su).2 (by omega) (by omega)).mono fun e w2 h=>by obtain⟨x,rfl,hx,hb⟩:=h; exact⟨_,rfl,hx.mono ((Ext.trans' S.E hC)).size,hb⟩,by intro u hC g F; exact(rF _ _ _ _ _ _ _ (((uf.ext hC)).parts' su).2 (((yD.ext hC)).parts' uP).2 (by omega) (by omega)).mono fun e w2 h=>by obtain⟨x,rfl,hx,hb⟩:=h; exact⟨_,rfl,hx.mono ((Ext.trans' S.E hC)).size,hb⟩,trivial⟩) (fun ac u x E28 F S=>?_)
 obtain⟨I4,F20,F25,-⟩:=F
 obtain⟨p15,g15,em⟩:=aQ.shape I4
 rw[em]at S I4
 obtain⟨p20,g20,em⟩:=aQ.shape F20
 rw[em]at S F20
 obtain⟨p25,g25,em⟩:=aQ.shape F25
 rw[em]at S F25
 have X30:=S.bx 2
 refine aiL S 2 (off:=0) (cs:=[.bool (decide ((qz q1*(q2.2.2:Int))<0)),.slice p15 (Na.au ((qz q1*(q2.2.2:Int))).natAbs).length g15]) rfl (fun u C29 S=>?_)
 have Bz:=aQ.bT I4 C29 X30
 have aaH:=aQ.bT F20 C29 X30
 have Ez:=aQ.bT F25 C29 X30
 have X35:=S.bx 1
 refine aiL S 1 (off:=0) (cs:=[.bool (decide ((qz q2*(q1.2.2:Int))<0)),.slice p20 (Na.au ((qz q2*(q1.2.2:Int))).natAbs).length g20]) rfl (fun u C34 S=>?_)
 have ac3:=aQ.bT Bz C34 X35
 have Xw:=aQ.bT aaH C34 X35
 have Xx:=aQ.bT Ez C34 X35
 have X40:=S.bx 0
 refine aiL S 0 (off:=0) (cs:=[.bool (decide (((q1.2.2:Int)*(q2.2.2:Int))<0)),.slice p25 (Na.au (((q1.2.2:Int)*(q2.2.2:Int))).natAbs).length g25]) rfl (fun u C39 S=>?_)
 have U5:=aQ.bT ac3 C39 X40
 have aaI:=aQ.bT Xw C39 X40
 have Md:=aQ.bT Xx C39 X40
 refine aiF<|lJ _ _<|Vp.rt ?_
 refine Sx.ae1 S 2 1 0 Tryz.results181 rfl rfl rfl ⟨_,_,_,rfl,U5,aaI,Md,S.E⟩
theorem LK(v1 v2:Value)(q1 q2:Bool×Nat×Nat)(K1 K2:Nat)(w:World)(h1:cO K1 w v1 q1)(h2:cO K2 w v2 q2)(hK1:1≤K1)(hK2:1≤K2)(hM1:K1≤100000)(hM2:K2≤100000) :
  Calls Tryz.prog 191 #[v1,v2] w fun e w'=>∃x,e = .returned x∧bH w.heap.size w' x (nK q1 q2)∧Ext w w':=by
 obtain⟨n1,a1,m1,c1,o1,CQ,k1,d1,rfl⟩:=h1.shape
 have su:=h1.len hK1
 have Ua:=h1.pos
 obtain⟨n2,a2,m2,c2,o2,NU,k2,d2,rfl⟩:=h2.shape
 have uP:=h2.len hK2
 have HP2:=h2.pos
 refine aiK Tryz.func191 Tryz.ntmps191 fun ac S=>aiG fun _ aU=>aiJ S 2 [.bool n1,.slice a1 m1 c1,.bool o1,.slice CQ k1 d1] fun ac u b2 E3 hb4 S=>aiJ S 3 [.bool n2,.slice a2 m2 c2,.bool o2,.slice NU k2 d2] fun ac u b5 E6 hb7 S=>aiJ S 4 Sx.zr fun ac u b8 E9 yC S=>aiF<|aU _ _<|wp_seq_k fun _ dB=>aiV S 4 [(6,fun v w1=>bH w.heap.size w1 v q1),(8,fun v w1=>bH w.heap.size w1 v q2)] (fun r=>[.mem 2 0,.mem 1 0]) (fun x=>[x 6,x 8]) (fun x=>[(_,_,true,x 6,6),(_,_,true,x 8,8)]) [[],[]] (fun x=>[(6,x 6),(8,x 8)]) ⟨fun _ _ _ k h=>aA.ext h k,fun _ _ _ k h=>aA.ext h k,trivial⟩ (fun x=>⟨by intro u hC g F; exact(jC _ q1 K1 _ (h1.below (Ext.trans' S.E hC)) (by omega)).mono fun e w2 h=>by obtain⟨x,rfl,hx,hb⟩:=h; exact⟨_,rfl,hx.mono ((Ext.trans' S.E hC)).size,hb⟩,by intro u hC g F; exact(jC _ q2 K2 _ (h2.below (Ext.trans' S.E hC)) (by omega)).mono fun e w2 h=>by obtain⟨x,rfl,hx,hb⟩:=h; exact⟨_,rfl,hx.mono ((Ext.trans' S.E hC)).size,hb⟩,trivial⟩) (fun ac u x H6 F S=>?_)
 obtain⟨F6,F8,-⟩:=F
 obtain⟨x1,e1,y1,f1,em⟩:=aA.shape F6
 rw[em]at S F6
 obtain⟨x2,e2,y2,f2,em⟩:=aA.shape F8
 rw[em]at S F8
 have Ed:=S.bx 2
 refine aiL S 2 (off:=0) (cs:=[.bool q1.1,.slice x1 (Na.au q1.2.1).length e1,.bool false,.slice y1 (Na.au q1.2.2).length f1]) rfl (fun u C13 S=>?_)
 have zi:=aA.bT F6 C13 Ed
 have X4:=aA.bT F8 C13 Ed
 have X18:=S.bx 1
 refine aiL S 1 (off:=0) (cs:=[.bool q2.1,.slice x2 (Na.au q2.2.1).length e2,.bool false,.slice y2 (Na.au q2.2.2).length f2]) rfl (fun u C17 S=>?_)
 have Dx:=aA.bT zi C17 X18
 have L6:=aA.bT X4 C17 X18
 refine aiF<|dB _ _<|wp_seq_k fun _ jo=>aiV S 11 [(13,fun v w1=>oI w.heap.size w1 v (qz q1*qz q2)),(18,fun v w1=>oI w.heap.size w1 v ((q1.2.2:Int)*(q2.2.2:Int))),(19,fun v w1=>bH w.heap.size w1 v (nK q1 q2))] (fun r=>[.mem 2 0,.mem 1 0,.mem 2 2,.mem 1 2]) (fun x=>[x 13,x 18,x 19]) (fun x=>[(_,_,true,x 13,13),(_,_,true,x 18,18),(_,_,true,x 19,19)]) [[],[],[13,18]] (fun x=>[(19,x 19)]) ⟨fun _ _ _ k h=>aQ.ext h k,fun _ _ _ k h=>aQ.ext h k,fun _ _ _ k h=>aA.ext h k,trivial⟩ (fun x=>⟨by intro u hC g F; exact(rF _ _ _ _ _ _ _ (((Dx.ext hC)).parts' su).1 (((L6.ext hC)).parts' uP).1 (by omega) (by omega)).mono fun e w2 h=>by obtain⟨x,rfl,hx,hb⟩:=h; exact⟨_,rfl,hx.mono ((Ext.trans' S.E hC)).size,hb⟩,by intro u hC g F; exact(rF _ _ _ _ _ _ _ (((Dx.ext hC)).parts' su).2 (((L6.ext hC)).parts' uP).2 (by omega) (by omega)).mono fun e w2 h=>by obtain⟨x,rfl,hx,hb⟩:=h; exact⟨_,rfl,hx.mono ((Ext.trans' S.E hC)).size,hb⟩,by intro u hC g F; obtain⟨F13,F18,-⟩:=F; exact(NT _ _ (qz q1*qz q2) (q1.2.2*q2.2.2) (K1+K2) _ (oI.toQ F13 (fB _ _ (jg su) (jg uP))) (oI.toQ (z:=((q1.2.2*q2.2.2:Nat):Int)) (by rw[Int.natCast_mul]; exact F18) (by rw[Int.natCast_mul]; exact fB _ _ (dX su.2) (dX uP.2))) (Nat.mul_pos Ua HP2) (by omega)).mono fun e w2 h=>by obtain⟨x,rfl,hx,hb⟩:=h; exact⟨_,rfl,hx.mono ((Ext.trans' S.E hC)).size,hb⟩,trivial⟩) (fun ac u x E22 F S=>?_)
 obtain⟨F13,F18,F19,-⟩:=F
 obtain⟨x3,e3,y3,f3,em⟩:=aA.shape F19
 rw[em]at S F19
 have Ub:=S.bx 0
 refine aiL S 0 (off:=0) (cs:=[.bool ((nK q1 q2).1),.slice x3 (Na.au (nK q1 q2).2.1).length e3,.bool false,.slice y3 (Na.au (nK q1 q2).2.2).length f3]) rfl (fun u Uc S=>?_)
 have uf:=aA.bT F19 Uc Ub
 refine aiF<|jo _ _<|Vp.rt ?_
 refine aiS S 0 Tryz.results191 rfl (v := .agg #[.bool ((nK q1 q2).1),.slice x3 (Na.au (nK q1 q2).2.1).length e3,.bool false,.slice y3 (Na.au (nK q1 q2).2.2).length f3]) ?_
 exact⟨_,rfl,uf,S.E⟩
theorem lN(v1 v2:Value)(q1 q2:Bool×Nat×Nat)(K1 K2:Nat)(w:World)(h1:cO K1 w v1 q1)(h2:cO K2 w v2 q2)(hK1:1≤K1)(hK2:1≤K2)(hM1:K1≤100000)(hM2:K2≤100000) :
  Calls Tryz.prog 136 #[v1,v2] w fun e w'=>e = .returned (.int .i64 (kJ q1 q2))∧Ext w w':=by
 obtain⟨n1,a1,m1,c1,o1,CQ,k1,d1,rfl⟩:=h1.shape
 have su:=h1.len hK1
 have Ua:=h1.pos
 obtain⟨n2,a2,m2,c2,o2,NU,k2,d2,rfl⟩:=h2.shape
 have uP:=h2.len hK2
 have HP2:=h2.pos
 refine aiK Tryz.func136 Tryz.ntmps136 fun ac S=>aiG fun _ aU=>aiJ S 2 [.bool n1,.slice a1 m1 c1,.bool o1,.slice CQ k1 d1] fun ac u b2 E3 hb4 S=>aiJ S 3 [.bool n2,.slice a2 m2 c2,.bool o2,.slice NU k2 d2] fun ac u b5 E6 hb7 S=>adr S 1 [] [(4,.int .i64 0)] fun ac S=>aiF<|aU _ _<|aiG fun _ dP=>adr S 2 [.mem 1 0,.mem 0 0] [(9,.agg #[.bool n1,.slice a1 m1 c1,.bool o1,.slice CQ k1 d1]),(10,.agg #[.bool n2,.slice a2 m2 c2,.bool o2,.slice NU k2 d2])] fun ac S=>aiQ S (some 11) (FH _ _ q1 q2 K1 K2 _ (h1.below S.E) (h2.below S.E) hK1 hK2 hM1 hM2) ?_
 rintro e u ⟨x,y,d,rfl,hx,hy,hd,E9⟩
 obtain⟨p0,g0,rfl⟩:=hx.shape
 obtain⟨p1,g1,rfl⟩:=hy.shape
 obtain⟨p2,g2,rfl⟩:=hd.shape
 refine⟨_,rfl,E9,fun ac S=>?_⟩
 refine adr S 4 [] [(12,.agg #[.bool (decide ((qz q1*(q2.2.2:Int))<0)),.slice p0 (Na.au ((qz q1*(q2.2.2:Int))).natAbs).length g0]),(13,.agg #[.bool (decide ((qz q2*(q1.2.2:Int))<0)),.slice p1 (Na.au ((qz q2*(q1.2.2:Int))).natAbs).length g1]),(14,.agg #[.bool (decide (((q1.2.2:Int)*(q2.2.2:Int))<0)),.slice p2 (Na.au (((q1.2.2:Int)*(q2.2.2:Int))).natAbs).length g2])] fun ac S=>aiJ S 5 [.bool false,.slice none 0 0] fun ac u b10 sF PL S=>aiJ S 6 [.bool false,.slice none 0 0] fun ac u b13 Ei XM S=>aiJ S 7 [.bool false,.slice none 0 0] fun ac u b16 LZ VR S=>aiL S 2 (off:=0) (cs:=[.bool (decide ((qz q1*(q2.2.2:Int))<0)),.slice p0 (Na.au ((qz q1*(q2.2.2:Int))).natAbs).length g0]) rfl (fun u VZ S=>?_)
 have Iz:=aiP (Ext.trans' sF (Ext.trans' Ei LZ)) VZ (by omega)
 have LD:=aiP (Ext.trans' sF (Ext.trans' Ei LZ)) VZ (by omega)
 have E22:=aiP (Ext.trans' sF (Ext.trans' Ei LZ)) VZ (by omega)
 have Ub:=S.bx 1
 refine aiL S 1 (off:=0) (cs:=[.bool (decide ((qz q2*(q1.2.2:Int))<0)),.slice p1 (Na.au ((qz q2*(q1.2.2:Int))).natAbs).length g1]) rfl (fun u Uc S=>?_)
 have uf:=aQ.bT (hx.ext Iz) Uc Ub
 have yD:=aQ.bT (hy.ext LD) Uc Ub
 have Qd:=aQ.bT (hd.ext E22) Uc Ub
 have X29:=S.bx 0
 refine aiL S 0 (off:=0) (cs:=[.bool (decide (((q1.2.2:Int)*(q2.2.2:Int))<0)),.slice p2 (Na.au (((q1.2.2:Int)*(q2.2.2:Int))).natAbs).length g2]) rfl (fun u C28 S=>?_)
 have P9:=aQ.bT uf C28 X29
 have Bz:=aQ.bT yD C28 X29
 have aaH:=aQ.bT Qd C28 X29
 refine aiF<|dP _ _<|aiG fun _ lW=>adr S 2 [.mem 2 0,.mem 1 0] [(15,.agg #[.bool (decide ((qz q1*(q2.2.2:Int))<0)),.slice p0 (Na.au ((qz q1*(q2.2.2:Int))).natAbs).length g0]),(16,.agg #[.bool (decide ((qz q2*(q1.2.2:Int))<0)),.slice p1 (Na.au ((qz q2*(q1.2.2:Int))).natAbs).length g1])] fun ac S=>aiM S 17 (QD _ _ _ _ _ _ _ (oI.toQ (K:=K1+K2) (P9) (fB _ _ (jg su) (dX uP.2))) (oI.toQ (K:=K1+K2) (Bz) (by rw[Nat.add_comm]; exact fB _ _ (jg uP) (dX su.2))) (by omega) (by omega)) fun ac u Xh S=>adr S 1 [] [(4,.int .i64 (kJ q1 q2))] fun ac S=>aiF<|lW _ _<|Vp.rt ?_
 refine aiH S Tryz.results136 ?_
 exact⟨rfl,S.E⟩
theorem XL(v1 v2:Value)(q1 q2:Bool×Nat×Nat)(K1 K2:Nat)(w:World)(h1:cO K1 w v1 q1)(h2:cO K2 w v2 q2)(hK1:1≤K1)(hK2:1≤K2)(hM1:K1≤100000)(hM2:K2≤100000) :
  Calls Tryz.prog 190 #[v1,v2] w fun e w'=>∃x,e = .returned x∧bH w.heap.size w' x (tK q1 q2)∧Ext w w':=by
 obtain⟨n1,a1,m1,c1,o1,CQ,k1,d1,rfl⟩:=h1.shape
 have su:=h1.len hK1
 have Ua:=h1.pos
 obtain⟨n2,a2,m2,c2,o2,NU,k2,d2,rfl⟩:=h2.shape
 have uP:=h2.len hK2
 have HP2:=h2.pos
 refine aiK Tryz.func190 Tryz.ntmps190 fun ac S=>aiG fun _ aU=>aiJ S 2 [.bool n1,.slice a1 m1 c1,.bool o1,.slice CQ k1 d1] fun ac u b2 E3 hb4 S=>aiJ S 3 [.bool n2,.slice a2 m2 c2,.bool o2,.slice NU k2 d2] fun ac u b5 E6 hb7 S=>aiJ S 4 Sx.zr fun ac u b8 E9 yC S=>aiF<|aU _ _<|aiG fun _ dB=>adr S 2 [.mem 2 0,.mem 1 0] [(9,.agg #[.bool n1,.slice a1 m1 c1,.bool o1,.slice CQ k1 d1]),(10,.agg #[.bool n2,.slice a2 m2 c2,.bool o2,.slice NU k2 d2])] fun ac S=>aiQ S (some 11) (FH _ _ q1 q2 K1 K2 _ (h1.below S.E) (h2.below S.E) hK1 hK2 hM1 hM2) ?_
 rintro e u ⟨x,y,d,rfl,hx,hy,hd,H6⟩
 obtain⟨p0,g0,rfl⟩:=hx.shape
 obtain⟨p1,g1,rfl⟩:=hy.shape
 obtain⟨p2,g2,rfl⟩:=hd.shape
 refine⟨_,rfl,H6,fun ac S=>?_⟩
 refine adr S 4 [] [(12,.agg #[.bool (decide ((qz q1*(q2.2.2:Int))<0)),.slice p0 (Na.au ((qz q1*(q2.2.2:Int))).natAbs).length g0]),(13,.agg #[.bool (decide ((qz q2*(q1.2.2:Int))<0)),.slice p1 (Na.au ((qz q2*(q1.2.2:Int))).natAbs).length g1]),(14,.agg #[.bool (decide (((q1.2.2:Int)*(q2.2.2:Int))<0)),.slice p2 (Na.au (((q1.2.2:Int)*(q2.2.2:Int))).natAbs).length g2])] fun ac S=>aiJ S 5 [.bool false,.slice none 0 0] fun ac u b13 Ei XM S=>aiJ S 6 [.bool false,.slice none 0 0] fun ac u b16 LZ VR S=>aiJ S 7 [.bool false,.slice none 0 0] fun ac u b19 Iz yX S=>aiL S 2 (off:=0) (cs:=[.bool (decide ((qz q1*(q2.2.2:Int))<0)),.slice p0 (Na.au ((qz q1*(q2.2.2:Int))).natAbs).length g0]) rfl (fun u C22 S=>?_)
 have JA:=aiP (Ext.trans' Ei (Ext.trans' LZ Iz)) C22 (by omega)
 have Xn:=aiP (Ext.trans' Ei (Ext.trans' LZ Iz)) C22 (by omega)
 have E25:=aiP (Ext.trans' Ei (Ext.trans' LZ Iz)) C22 (by omega)
 have X27:=S.bx 1
 refine aiL S 1 (off:=0) (cs:=[.bool (decide ((qz q2*(q1.2.2:Int))<0)),.slice p1 (Na.au ((qz q2*(q1.2.2:Int))).natAbs).length g1]) rfl (fun u C26 S=>?_)
 have XW:=aQ.bT (hx.ext JA) C26 X27
 have P8:=aQ.bT (hy.ext Xn) C26 X27
 have P9:=aQ.bT (hd.ext E25) C26 X27
 have X32:=S.bx 0
 refine aiL S 0 (off:=0) (cs:=[.bool (decide (((q1.2.2:Int)*(q2.2.2:Int))<0)),.slice p2 (Na.au (((q1.2.2:Int)*(q2.2.2:Int))).natAbs).length g2]) rfl (fun u C31 S=>?_)
 have Ez:=aQ.bT XW C31 X32
 have X5:=aQ.bT P8 C31 X32
 have U7:=aQ.bT P9 C31 X32
 refine aiF<|dB _ _<|wp_seq_k fun _ nJ=>aiV S 5 [(17,fun v w1=>oI w.heap.size w1 v ((qz q1*(q2.2.2:Int))-(qz q2*(q1.2.2:Int)))),(19,fun v w1=>bH w.heap.size w1 v (tK q1 q2))] (fun r=>[.mem 2 0,.mem 1 0,.mem 0 0]) (fun x=>[x 17,x 19]) (fun x=>[(_,_,true,x 17,17),(_,_,true,x 19,19)]) [[],[17]] (fun x=>[(19,x 19)]) ⟨fun _ _ _ k h=>aQ.ext h k,fun _ _ _ k h=>aA.ext h k,trivial⟩ (fun x=>⟨by intro u hC g F; exact(ET _ _ _ _ _ _ _ (oI.toQ (K:=K1+K2) ((Ez.ext hC)) (fB _ _ (jg su) (dX uP.2))) (oI.toQ (K:=K1+K2) ((X5.ext hC)) (by rw[Nat.add_comm]; exact fB _ _ (jg uP) (dX su.2))) (by omega) (by omega)).mono fun e w2 h=>by obtain⟨x,rfl,hx,hb⟩:=h; exact⟨_,rfl,hx.mono ((Ext.trans' S.E hC)).size,hb⟩,by intro u hC g F; obtain⟨Qc,-⟩:=F; exact(NT _ _ ((qz q1*(q2.2.2:Int))-(qz q2*(q1.2.2:Int))) (q1.2.2*q2.2.2) (K1+K2+1) _ (oI.toQ Qc (DU _ _ (FI (K:=K1+K2) (oI.toQ (K:=K1+K2) ((Ez.ext hC)) (fB _ _ (jg su) (dX uP.2)))) (FI (K:=K1+K2) (oI.toQ (K:=K1+K2) ((X5.ext hC)) (by rw[Nat.add_comm]; exact fB _ _ (jg uP) (dX su.2)))))) (by rw[Int.natCast_mul]; exact eP.mono (oI.toQ (K:=K1+K2) ((U7.ext hC)) (fB _ _ (dX su.2) (dX uP.2))) (by omega)) (Nat.mul_pos Ua HP2) (by omega)).mono fun e w2 h=>by obtain⟨x,rfl,hx,hb⟩:=h; exact⟨_,rfl,hx.mono ((Ext.trans' S.E hC)).size,hb⟩,trivial⟩) (fun ac u x LP F S=>?_)
 obtain⟨Qc,F19,-⟩:=F
 obtain⟨x3,e3,y3,f3,em⟩:=aA.shape F19
 rw[em]at S F19
 have X39:=S.bx 3
 refine aiL S 3 (off:=0) (cs:=[.bool ((tK q1 q2).1),.slice x3 (Na.au (tK q1 q2).2.1).length e3,.bool false,.slice y3 (Na.au (tK q1 q2).2.2).length f3]) rfl (fun u Xl S=>?_)
 have XY:=aQ.bT (Ez.ext LP) Xl X39
 have U5:=aQ.bT (X5.ext LP) Xl X39
 have aaI:=aQ.bT (U7.ext LP) Xl X39
 have Md:=aA.bT F19 Xl X39
 refine aiF<|nJ _ _<|Vp.rt ?_
 refine aiS S 3 Tryz.results190 rfl (v := .agg #[.bool ((tK q1 q2).1),.slice x3 (Na.au (tK q1 q2).2.1).length e3,.bool false,.slice y3 (Na.au (tK q1 q2).2.2).length f3]) ?_
 exact⟨_,rfl,Md,S.E⟩
theorem mF(v1:Value)(q1:Bool×Nat×Nat)(K1:Nat)(w:World)(h1:cO K1 w v1 q1)(hK1:1≤K1)(hM:K1≤100000) :
  Calls Tryz.prog 151 #[v1] w fun e w'=>e = .returned (.int .i64 (bF q1:Int))∧Ext w w':=by
 obtain⟨n1,a1,m1,c1,o1,CQ,k1,d1,rfl⟩:=h1.shape
 have su:=h1.len hK1
 have Ua:=h1.pos
 refine aiK Tryz.func151 Tryz.ntmps151 fun ac S=>aiG fun _ aU=>aiJ S 1 [.bool n1,.slice a1 m1 c1,.bool o1,.slice CQ k1 d1] fun ac u b2 E3 hb4 S=>adr S 1 [] [(2,.int .i64 0)] fun ac S=>aiF<|aU _ _<|aiG fun _ bV=>adr S 1 [.mem 0 0] [(3,.agg #[.bool n1,.slice a1 m1 c1,.bool o1,.slice CQ k1 d1])] fun ac S=>aiQ S (some 4) (jC _ q1 K1 _ (h1.below S.E) (by omega)) ?_
 rintro e u ⟨x,rfl,hx,E6⟩
 obtain⟨x1,e1,y1,f1,rfl⟩:=aA.shape hx
 refine⟨_,rfl,E6,fun ac S=>?_⟩
 have X8:=S.bx 0
 refine aiL S 0 (off:=0) (cs:=[.bool q1.1,.slice x1 (Na.au q1.2.1).length e1,.bool false,.slice y1 (Na.au q1.2.2).length f1]) rfl (fun u C7 S=>?_)
 have Fs9:=aA.bT hx C7 X8
 refine aiF<|bV _ _<|wp_seq_k fun _ dV=>aiO S 7 [.mem 0 0,.mem 0 2,.re 11 (.int .i64 (if ((bl (q1.2.2):Nat):Int)>((bl (q1.2.1):Nat):Int)then ((bl (q1.2.2):Nat):Int)else ((bl (q1.2.1):Nat):Int))) (.int .i64 (max ((bl (q1.2.1):Nat):Int) ((bl (q1.2.2):Nat):Int)))] [(_,_,true,.int .i64 ((bl (q1.2.1):Nat):Int)),(_,_,true,.int .i64 ((bl (q1.2.2):Nat):Int))] [(11,.int .i64 (max ((bl (q1.2.1):Nat):Int) ((bl (q1.2.2):Nat):Int)))] ⟨fun u hC g=>Az (yJ _ _ _ _ (((Fs9.ext hC)).parts' su).1 (by omega)) (by first | (rw[show(qz q1).natAbs=q1.2.1 from kQ ..]) | rw[Int.natAbs_natCast]),fun u hC g=>Az (yJ _ _ _ _ (((Fs9.ext hC)).parts' su).2 (by omega)) (by first | (rw[show(qz q1).natAbs=q1.2.1 from kQ ..]) | rw[Int.natAbs_natCast]),trivial⟩ (hk:=⟨Sx.Y9,trivial⟩) fun ac u sF S=>adr S 1 [] [(2,.int .i64 (max ((bl (q1.2.1):Nat):Int) ((bl (q1.2.2):Nat):Int)))] fun ac S=>aiF<|dV _ _<|Vp.rt ?_
 refine aiH S Tryz.results151 ?_
 exact⟨by unfold bF; congr 2; omega,S.E⟩
end
section
open Go.RowKit
variable{α:Type}
structure Q6 where
 a:Bool×Nat×Nat
 b:Bool×Nat×Nat
 c:Bool×Nat×Nat
 d:Bool×Nat×Nat
 e:Bool×Nat×Nat
 f:Bool×Nat×Nat
def dG(R:World→Value→Bool×Nat×Nat→Prop)(w:World)(v:Value)(Q:Q6):Prop:=
 ∃c0 c1 c2 c3 c4 c5 c6 c7 c8 c9 c10 c11 c12 c13 c14 c15 c16 c17 c18 c19 c20 c21 Hy c23:Value,v = .agg #[c0,c1,c2,c3,c4,c5,c6,c7,c8,c9,c10,c11,c12,c13,c14,c15,c16,c17,c18,c19,c20,c21,Hy,c23]∧R w (.agg #[c0,c1,c2,c3]) Q.a∧R w (.agg #[c4,c5,c6,c7]) Q.b∧R w (.agg #[c8,c9,c10,c11]) Q.c∧R w (.agg #[c12,c13,c14,c15]) Q.d∧R w (.agg #[c16,c17,c18,c19]) Q.e∧R w (.agg #[c20,c21,Hy,c23]) Q.f
abbrev jk (K:Nat):World→Value→Q6→Prop:=dG (cO K)
abbrev jB (base:Nat):World→Value→Q6→Prop:=dG (bH base)
theorem dG.mono{R R':World→Value→Bool×Nat×Nat→Prop}{w w':World}{v:Value}{Q:Q6}(h:dG R w v Q)(hR:∀x q,R w x q→R' w' x q):dG R' w' v Q:=by
 obtain⟨c0,c1,c2,c3,c4,c5,c6,c7,c8,c9,c10,c11,c12,c13,c14,c15,c16,c17,c18,c19,c20,c21,Hy,c23,hv,h0,h1,h2,h3,h4,h5⟩:=h
 exact⟨c0,c1,c2,c3,c4,c5,c6,c7,c8,c9,c10,c11,c12,c13,c14,c15,c16,c17,c18,c19,c20,c21,Hy,c23,hv,hR _ _ h0,hR _ _ h1,hR _ _ h2,hR _ _ h3,hR _ _ h4,hR _ _ h5⟩
theorem dG.eU{K:Nat}{w w':World}{v:Value}{Q:Q6}(h:jk K w v Q)(hb:Ext w w'):jk K w' v Q:=h.mono fun _ _ k=>k.below hb
theorem dG.tC{base:Nat}{w w':World}{v:Value}{Q:Q6}(h:jB base w v Q)(hb:Ext w w'):jB base w' v Q:=h.mono fun _ _ k=>k.ext hb
theorem dG.SI{base base':Nat}{w:World}{v:Value}{Q:Q6}(h:jB base w v Q)(hb:base'≤base):jB base' w v Q:=h.mono fun _ _ k=>aA.mono k hb
def vY(Q:Q6):Prop:=Hw Q.a∧Hw Q.b∧Hw Q.c∧Hw Q.d∧Hw Q.e∧Hw Q.f
def Em(K:Nat)(Q:Q6):Prop:=qlen K Q.a∧qlen K Q.b∧qlen K Q.c∧qlen K Q.d∧qlen K Q.e∧qlen K Q.f
theorem dG.toQ{base K:Nat}{w:World}{v:Value}{Q:Q6}(h:jB base w v Q)(hn:vY Q)(hl:Em K Q):jk K w v Q:=by
 obtain⟨c0,c1,c2,c3,c4,c5,c6,c7,c8,c9,c10,c11,c12,c13,c14,c15,c16,c17,c18,c19,c20,c21,Hy,c23,hv,h0,h1,h2,h3,h4,h5⟩:=h
 obtain⟨n0,n1,n2,n3,n4,n5⟩:=hn
 obtain⟨l0,l1,l2,l3,l4,l5⟩:=hl
 exact⟨c0,c1,c2,c3,c4,c5,c6,c7,c8,c9,c10,c11,c12,c13,c14,c15,c16,c17,c18,c19,c20,c21,Hy,c23,hv,aA.toQ h0 n0 l0,aA.toQ h1 n1 l1,aA.toQ h2 n2 l2,aA.toQ h3 n3 l3,aA.toQ h4 n4 l4,aA.toQ h5 n5 l5⟩
theorem dG.nrm{K:Nat}{w:World}{v:Value}{Q:Q6}(h:jk K w v Q):vY Q:=by
 obtain⟨c0,c1,c2,c3,c4,c5,c6,c7,c8,c9,c10,c11,c12,c13,c14,c15,c16,c17,c18,c19,c20,c21,Hy,c23,hv,h0,h1,h2,h3,h4,h5⟩:=h
 exact⟨h0.nrm,h1.nrm,h2.nrm,h3.nrm,h4.nrm,h5.nrm⟩
theorem dG.len{K:Nat}{w:World}{v:Value}{Q:Q6}(h:jk K w v Q)(hK:1≤K):Em K Q:=by
 obtain⟨c0,c1,c2,c3,c4,c5,c6,c7,c8,c9,c10,c11,c12,c13,c14,c15,c16,c17,c18,c19,c20,c21,Hy,c23,hv,h0,h1,h2,h3,h4,h5⟩:=h
 exact⟨h0.len hK,h1.len hK,h2.len hK,h3.len hK,h4.len hK,h5.len hK⟩
def aV.q(t:aV):Q6:=⟨t.a.q,t.b.q,t.c.q,t.d.q,t.e.q,t.f.q⟩
theorem aV.toQ{K:Nat}{w:World}{t:aV}(h:t.ok w)(hf:t.fit K):jk K w t.v t.q:=by
 obtain⟨h0,h1,h2,h3,h4,h5⟩:=h
 obtain⟨f0,f1,f2,f3,f4,f5⟩:=hf
 exact⟨_,_,_,_,_,_,_,_,_,_,_,_,_,_,_,_,_,_,_,_,_,_,_,_,rfl,bM.toQ h0 f0,bM.toQ h1 f1,bM.toQ h2 f2,bM.toQ h3 f3,bM.toQ h4 f4,bM.toQ h5 f5⟩
def Q6.valid(Q:Q6):Bool:=decide (bF Q.a≤256)&&(decide (bF Q.b≤256)&&(decide (bF Q.c≤256)&&(decide (bF Q.d≤256)&&(decide (bF Q.e≤256)&&(decide (bF Q.f≤256))))))
def Q6.vU(Q:Q6):Bool×Nat×Nat:=tK (nK Q.a Q.d) (nK Q.b Q.c)
def Q6.eq(P Q:Q6):Bool:=oC P.a Q.a&&(oC P.b Q.b&&(oC P.c Q.c&&(oC P.d Q.d&&(oC P.e Q.e&&(oC P.f Q.f)))))
theorem Bx.Q5{w:World}{b:Nat}{A:Array Value}(h:Bx w b A)(o:Nat)(vs:List Value)(hn:o+vs.length≤A.size):Bx (w.setCells b o vs) b (A.toList.take o++vs++A.toList.drop (o+vs.length)).toArray:=by
 have hth:w.there b o vs.length:=fun j hj=>by
  rw[h.2.1,h.2.2,Array.getElem?_eq_getElem (by omega)]; exact⟨rfl,rfl⟩
 have hl:(A.toList.take o).length=o:=by simp; omega
 refine⟨by rw[size_setCells]; exact h.1,fun i=>?_,fun i=>by rw[lU]; exact h.2.2 i⟩
 by_cases h1:i<o
 ·rw[iC b vs o w i (.inl h1),h.2.1]
  simp only[List.getElem?_toArray]
  rw[List.append_assoc,List.getElem?_append_left (by omega),List.getElem?_take_of_lt h1]; simp
 ·by_cases h2:i<o+vs.length
  ·obtain⟨j,rfl⟩:∃j,i=o+j:=⟨i-o,by omega⟩
   have:=World.rangeAt_setCells_same w b o vs hth j (vs[j]'(by omega)) (by simp)
   rw[this]
   simp only[List.getElem?_toArray]
   rw[List.getElem?_append_left (by simp; omega),List.getElem?_append_right (by omega),hl,Nat.add_sub_cancel_left,List.getElem?_eq_getElem]
  ·rw[iC b vs o w i (.inr (by omega)),h.2.1]
   simp only[List.getElem?_toArray]
   rw[List.getElem?_append_right (by simp; omega),List.getElem?_drop]
   simp
   congr 1; omega
open Go.RowKit
variable{α:Type}
def qI:Q6:=⟨(false,1,1),(false,0,1),(false,0,1),(false,1,1),(false,0,1),(false,0,1)⟩
open Go.RowKit
variable{α:Type}
theorem cO.gG{K:Nat}{w:World}{v:Value}{q:Bool×Nat×Nat}(h:cO K w v q):∃r:bM,v=r.v:=by
 obtain⟨n1,s1,l1,n2,s2,l2,rfl,h1,h2,_⟩:=h
 obtain⟨a1,c1,rfl,_⟩:=h1
 obtain⟨a2,c2,rfl,_⟩:=h2
 exact⟨⟨n1,a1,c1,l1,n2,a2,c2,l2⟩,rfl⟩
theorem aA.gG{base:Nat}{w:World}{v:Value}{neg:Bool}{a b:Nat}(h:aA base w v neg a b):∃r:bM,v=r.v:=by
 obtain⟨s,t,rfl,hs,ht,_⟩:=h
 obtain⟨a1,c1,rfl,_⟩:=hs
 obtain⟨a2,c2,rfl,_⟩:=ht
 exact⟨⟨_,a1,c1,_,_,a2,c2,_⟩,rfl⟩
theorem dG.Za{R:World→Value→Bool×Nat×Nat→Prop}{w:World}{v:Value}{Q:Q6}(h:dG R w v Q)(hR:∀x q,R w x q→∃r:bM,x=r.v):∃t:aV,v=t.v∧R w t.a.v Q.a∧R w t.b.v Q.b∧R w t.c.v Q.c∧R w t.d.v Q.d∧R w t.e.v Q.e∧R w t.f.v Q.f:=by
 obtain⟨c0,c1,c2,c3,c4,c5,c6,c7,c8,c9,c10,c11,c12,c13,c14,c15,c16,c17,c18,c19,c20,c21,Hy,c23,rfl,h0,h1,h2,h3,h4,h5⟩:=h
 obtain⟨r0,e0⟩:=hR _ _ h0
 simp only[bM.v,Value.agg.injEq,Array.mk.injEq,List.cons.injEq,and_true]at e0
 obtain⟨rfl,rfl,rfl,rfl⟩:=e0
 obtain⟨r1,e1⟩:=hR _ _ h1
 simp only[bM.v,Value.agg.injEq,Array.mk.injEq,List.cons.injEq,and_true]at e1
 obtain⟨rfl,rfl,rfl,rfl⟩:=e1
 obtain⟨r2,e2⟩:=hR _ _ h2
 simp only[bM.v,Value.agg.injEq,Array.mk.injEq,List.cons.injEq,and_true]at e2
 obtain⟨rfl,rfl,rfl,rfl⟩:=e2
 obtain⟨r3,e3⟩:=hR _ _ h3
 simp only[bM.v,Value.agg.injEq,Array.mk.injEq,List.cons.injEq,and_true]at e3
 obtain⟨rfl,rfl,rfl,rfl⟩:=e3
 obtain⟨r4,e4⟩:=hR _ _ h4
 simp only[bM.v,Value.agg.injEq,Array.mk.injEq,List.cons.injEq,and_true]at e4
 obtain⟨rfl,rfl,rfl,rfl⟩:=e4
 obtain⟨r5,e5⟩:=hR _ _ h5
 simp only[bM.v,Value.agg.injEq,Array.mk.injEq,List.cons.injEq,and_true]at e5
 obtain⟨rfl,rfl,rfl,rfl⟩:=e5
 exact⟨⟨r0,r1,r2,r3,r4,r5⟩,rfl,h0,h1,h2,h3,h4,h5⟩
theorem dG.sQ{K:Nat}{w:World}{v:Value}{Q:Q6}(h:jk K w v Q):∃t:aV,v=t.v∧cO K w t.a.v Q.a∧cO K w t.b.v Q.b∧cO K w t.c.v Q.c∧cO K w t.d.v Q.d∧cO K w t.e.v Q.e∧cO K w t.f.v Q.f:=h.Za fun _ _ k=>k.gG
theorem dG.sT{base:Nat}{w:World}{v:Value}{Q:Q6}(h:jB base w v Q):∃t:aV,v=t.v∧bH base w t.a.v Q.a∧bH base w t.b.v Q.b∧bH base w t.c.v Q.c∧bH base w t.d.v Q.d∧bH base w t.e.v Q.e∧bH base w t.f.v Q.f:=h.Za fun _ _ k=>aA.gG k
theorem dG.of{R:World→Value→Bool×Nat×Nat→Prop}{w:World}{t:aV}{Q:Q6}(h0:R w t.a.v Q.a)(h1:R w t.b.v Q.b)(h2:R w t.c.v Q.c)(h3:R w t.d.v Q.d)(h4:R w t.e.v Q.e)(h5:R w t.f.v Q.f):dG R w t.v Q:=
 ⟨_,_,_,_,_,_,_,_,_,_,_,_,_,_,_,_,_,_,_,_,_,_,_,_,rfl,h0,h1,h2,h3,h4,h5⟩
theorem dG.inv{R:World→Value→Bool×Nat×Nat→Prop}{w:World}{t:aV}{Q:Q6}(h:dG R w t.v Q):R w t.a.v Q.a∧R w t.b.v Q.b∧R w t.c.v Q.c∧R w t.d.v Q.d∧R w t.e.v Q.e∧R w t.f.v Q.f:=by
 obtain⟨c0,c1,c2,c3,c4,c5,c6,c7,c8,c9,c10,c11,c12,c13,c14,c15,c16,c17,c18,c19,c20,c21,Hy,c23,e,h0,h1,h2,h3,h4,h5⟩:=h
 simp only[aV.v,aV.cells,bM.cells,List.cons_append,List.nil_append,Value.agg.injEq,Array.mk.injEq,List.cons.injEq,and_true]at e
 obtain⟨rfl,rfl,rfl,rfl,rfl,rfl,rfl,rfl,rfl,rfl,rfl,rfl,rfl,rfl,rfl,rfl,rfl,rfl,rfl,rfl,rfl,rfl,rfl,rfl⟩:=e
 exact⟨h0,h1,h2,h3,h4,h5⟩
theorem dG.pa{R:World→Value→Bool×Nat×Nat→Prop}{w:World}{t:aV}{Q:Q6}(h:dG R w t.v Q):R w t.a.v Q.a:=h.inv.1
theorem dG.pb{R:World→Value→Bool×Nat×Nat→Prop}{w:World}{t:aV}{Q:Q6}(h:dG R w t.v Q):R w t.b.v Q.b:=h.inv.2.1
theorem dG.pc{R:World→Value→Bool×Nat×Nat→Prop}{w:World}{t:aV}{Q:Q6}(h:dG R w t.v Q):R w t.c.v Q.c:=h.inv.2.2.1
theorem dG.pd{R:World→Value→Bool×Nat×Nat→Prop}{w:World}{t:aV}{Q:Q6}(h:dG R w t.v Q):R w t.d.v Q.d:=h.inv.2.2.2.1
theorem dG.pe{R:World→Value→Bool×Nat×Nat→Prop}{w:World}{t:aV}{Q:Q6}(h:dG R w t.v Q):R w t.e.v Q.e:=h.inv.2.2.2.2.1
theorem dG.pf{R:World→Value→Bool×Nat×Nat→Prop}{w:World}{t:aV}{Q:Q6}(h:dG R w t.v Q):R w t.f.v Q.f:=h.inv.2.2.2.2.2
theorem dG.bT{base:Nat}{w w':World}{v:Value}{Q:Q6}{b:Nat}{A:Array Value}(h:jB base w v Q)(hc:Ch b w w')(hx:Bx w b A)(hA:A.toList.all yG=true:=by rfl):jB base w' v Q:=h.mono fun _ _ k=>aA.bT k hc hx hA
theorem dG.ch{base b:Nat}{w w':World}{v:Value}{Q:Q6}(h:jB base w v Q)(hc:Ch b w w')(hlt:b<base):jB base w' v Q:=h.mono fun _ _ k=>aA.ch k hc hlt
end
section
open Go.RowKit
theorem eqPt(x y p q:Int)(w:World):(binOp .eql 60 (.agg #[.int .i64 x,.int .i64 y]) (.agg #[.int .i64 p,.int .i64 q])).run Tryz.prog w = .ok (.bool ((x==p)&&(y==q))) w:=by
 simp[go_sem]
 (repeat' split)<;>simp_all
theorem V6(x y p q:Int)(w:World):(binOp .neq 60 (.agg #[.int .i64 x,.int .i64 y]) (.agg #[.int .i64 p,.int .i64 q])).run Tryz.prog w = .ok (.bool (!((x==p)&&(y==q)))) w:=by
 simp[go_sem]
 (repeat' split)<;>simp_all
theorem aeK(a b c d e f g h:Int)(w:World):(binOp .eql 122 (.agg #[.int .u8 a,.int .u8 b,.int .u8 c,.int .u8 d]) (.agg #[.int .u8 e,.int .u8 f,.int .u8 g,.int .u8 h])).run Tryz.prog w = .ok (.bool ((a==e)&&((b==f)&&((c==g)&&(d==h))))) w:=by
 simp[go_sem]
 (repeat' split)<;>simp_all
theorem abQ(a b c d e f g h:Int)(w:World):(binOp .neq 122 (.agg #[.int .u8 a,.int .u8 b,.int .u8 c,.int .u8 d]) (.agg #[.int .u8 e,.int .u8 f,.int .u8 g,.int .u8 h])).run Tryz.prog w = .ok (.bool (!((a==e)&&((b==f)&&((c==g)&&(d==h)))))) w:=by
 simp[go_sem]
 (repeat' split)<;>simp_all
theorem IQ(a b c d e f g h:Int)(w:World):(binOp .eql 23 (.agg #[.int .u8 a,.int .u8 b,.int .u8 c,.int .u8 d]) (.agg #[.int .u8 e,.int .u8 f,.int .u8 g,.int .u8 h])).run Tryz.prog w = .ok (.bool ((a==e)&&((b==f)&&((c==g)&&(d==h))))) w:=by
 simp[go_sem]
 (repeat' split)<;>simp_all
theorem Yd(o a b c d p e f g h:Int)(w:World):(binOp .neq 155 (.agg #[.int .i64 o,.int .u8 a,.int .u8 b,.int .u8 c,.int .u8 d]) (.agg #[.int .i64 p,.int .u8 e,.int .u8 f,.int .u8 g,.int .u8 h])).run Tryz.prog w = .ok (.bool (!((o==p)&&((a==e)&&((b==f)&&((c==g)&&(d==h))))))) w:=by
 simp[go_sem]
 (repeat' split)<;>simp_all
theorem abP(v a b c d e f v' a' b' c' d' e' f':Int)(w:World):(binOp .neq 62 (.agg #[.int .i64 v,.int .i64 a,.int .i64 b,.int .i64 c,.int .i64 d,.int .i64 e,.int .i64 f]) (.agg #[.int .i64 v',.int .i64 a',.int .i64 b',.int .i64 c',.int .i64 d',.int .i64 e',.int .i64 f'])).run Tryz.prog w =
  .ok (.bool (!((v==v')&&((a==a')&&((b==b')&&((c==c')&&((d==d')&&((e==e')&&(f==f'))))))))) w:=by
 simp[go_sem]
 (repeat' split)<;>simp_all
end
end Go.Proofs.YtfmkkemfhjkajaaGreatDoor
