/- What reading an encoding gives. Turned bits in the -/
import Derived.Test.YtapmgonflgahbaaGreatDoorEnInj
import Derived.Test.YtapmgonflgahbaaGreatDoorPk40
set_option linter.unusedVariables false
section
namespace Go.Sx
open Go.Proofs Go.Proofs.YtapmgonflgahbaaGreatDoor Go.RowKit Go.Rel
section
variable{P:Program}{ops:Array Oper}{Q:Exit→Act→World→Prop}{w0 w:World}{a:Act}{os:List Oper}{n:Nat}{l:List (Nat×Value)}{bl:List (Nat×List Value)}{vs:List fG}
end
end Go.Sx
namespace Go.Proofs.YtapmgonflgahbaaGreatDoor
open Go.RowKit En
variable{α β:Type}{K:Nat}
theorem WO(x:Int):0<(iB x).length:=xu 9 _
end Go.Proofs.YtapmgonflgahbaaGreatDoor
end
namespace Go.Proofs.YtapmgonflgahbaaGreatDoor
section
open Go.RowKit En
section
variable{P:Program}{t:TypeId}{ox oy:Operand}
theorem acu(x:UInt32)(k:Nat)(hk:k≤32):∀w,(do eqGuard .shr t ox oy (.int .u32 (x.toNat:Int)) (.int .u64 (k:Int)); binOp .shr t (.int .u32 (x.toNat:Int)) (.int .u64 (k:Int)):Sem Value).run P w = .ok (.int .u32 ((x.toNat/2^k:Nat):Int)) w:=fun w=>by
 have h:Op.shift .shr .u32 (x.toNat:Int) .u64 (k:Int)=pure (.int .u32 ((x.toNat/2^k:Nat):Int)):=by
  rw[shift_shr .u32 .u64 _ _ (by omega) (by show(k:Int)≤32; omega)];simp
 rw[eqGuard_shr,binOp_shr,h]; rfl
theorem acv(k:Nat)(hk:k<8):∀w,(do eqGuard .shl t ox oy (.u 1) (.int .u64 (k:Int)); binOp .shl t (.u 1) (.int .u64 (k:Int)):Sem Value).run P w = .ok (.u (((1:UInt8)<<<UInt8.ofNat k).toNat:Int)) w:=fun w=>by
 have h:Op.shift .shl .u8 1 .u64 (k:Int)=pure (.u (((1:UInt8)<<<UInt8.ofNat k).toNat:Int)):=by
  rw[shift_shl .u8 .u64 _ _ (by omega) (by show(k:Int)≤8; omega),←RQ k hk];simp[IntKind.wrap_u8]
 rw[eqGuard_shl,binOp_shl,h]; rfl
theorem acw(x y:UInt8):∀w,(do eqGuard .xor t ox oy (.u (x.toNat:Int)) (.u (y.toNat:Int)); binOp .xor t (.u (x.toNat:Int)) (.u (y.toNat:Int)):Sem Value).run P w = .ok (.u ((x^^^y).toNat:Int)) w:=fun w=>by
 rw[eqGuard_xor,←bx8];simp[go_sem]
theorem Zk(m:Nat):∀w,(do eqGuard .rem t ox oy (.int .u32 (m:Int)) (.int .u32 2); binOp .rem t (.int .u32 (m:Int)) (.int .u32 2):Sem Value).run P w = .ok (.int .u32 ((m%2:Nat):Int)) w:=fun w=>by
 rw[eqGuard_rem];simp[go_sem];rw[aky (aks _)]
theorem acy(a b:Nat)(hb:0<b):∀w,(do eqGuard .rem t ox oy (.i a) (.i b); binOp .rem t (.i a) (.i b):Sem Value).run P w = .ok (.i (a%b:Nat)) w:=fun w=>by
 rw[eqGuard_rem];have:¬b=0:=by omega
 simp[go_sem,this];rw[aky (aks _)]
theorem acz(x k:Nat):∀w,(do eqGuard .eql t ox oy (.int .u32 ((x/2^k%2:Nat):Int)) (.int .u32 1); binOp .eql t (.int .u32 ((x/2^k%2:Nat):Int)) (.int .u32 1):Sem Value).run P w = .ok (.bool (x.testBit k)) w:=fun w=>by
 have h:(((x/2^k%2:Nat):Int)==1)=x.testBit k:=by
  rw[Nat.testBit_eq_decide_div_mod_eq,ai4,aiv,akh]; omega
 rw[←h];simp[go_sem]
end
theorem ad6{a:Nat}(h:a≤900000000):Value.i (IntKind.i64.wrap (Int.tdiv (a:Int) 8)) = .i (a/8:Nat):=Sx.lG (IU a 8) (by omega)
theorem ad7(a m:Nat):Value.i (Int.tmod (a:Int) (m:Int)) = .i (a%m:Nat):=by rw[aky (aks _)]; rfl
theorem ad8(a:Nat):Value.u (Int.tmod (a:Int) 4) = .u ((a%4:Nat):Int):=by rw[aky (aks _)]; rfl
theorem Zl{F:List UInt8}{j:Nat}{y:UInt8}(hj:j<F.length):Sx.spl (F.map dQ) (0+j*1) [dQ y]=(F.set j y).map dQ:=by
 unfold Sx.spl;rw[ai0,Nat.mul_one,ajC,List.set_eq_take_append_cons_drop,aib (by simpa using hj)];simp
theorem acA{F:List UInt8}{j:Nat}(hj:j<F.length):((F.map dQ).drop (0+j*1)).take [dQ (F.getD j 0)].length=[dQ (F.getD j 0)]:=by
 rw[ai0,Nat.mul_one,ajg (by simpa using hj)];simp[List.getD,hj]
theorem WQ(w:World)(a:Addr):dS w 1 (.slice (some a) 0 0) 0 []:=⟨rfl,fun u hu=>(by cases hu),.inl ⟨rfl,_,_,rfl,fun e=>(by cases e)⟩⟩
theorem RY{w:World}{base:Nat}{v:Value}{F:List UInt8}(h:OwnB base w v F)(hn:0<F.length):∃g c,v = .slice (some ⟨g,0,none⟩) F.length c:=by
 obtain⟨-,⟨-,h0⟩ | ⟨g,cap,cur,e,-⟩⟩:=h
 ·omega
 exact⟨g,cap,e⟩
theorem acZ(x:Int)(L:List Int):dH (x::L)=iB x++dH L:=rfl
theorem RZ(s:iO):10≤(jD s).length:=by
 have h1:=WO s.w;have h2:=WO s.h;have h3:0<(fE 10 s.ns.length).length:=xu 9 s.ns.length;have e:jD s=[71,83,49]++(iB s.w++(iB s.h++(Px.pb s.bg++iG (fH false) s.ns))):=by
  unfold jD; simp only[acZ,aiJ]; rfl
 rw[e];simp only[iG,aif,aiO,ai8,Px.pb];omega
theorem Si{l:List UInt8}(h:l.length<4)(m:List UInt8):l≠dL.app m:=fun e=>by rw[e,pG]at h; omega
end
section
open Go.RowKit En
variable{α:Type}{K:Nat}
theorem Zm{s:bC}(h:s.key.valid=true):(dL.app (jD s.key)).length≤60000000:=by
 rw[pG]; have:=yK h; omega
theorem acB{w:World}{v:Value}{L:List UInt8}(h:kZ w v L):dS w 1 v L.length (L.map dQ):=bV.raw (fun _=>rfl) (gY h)
theorem O7{w:World}{base:Nat}{a:Option Addr}{c:Nat}{F:List UInt8}(h:OwnB base w (.slice a F.length c) F)(hn:0<F.length):F.length≤c∧c≤maxLen:=by
 obtain⟨-,⟨-,h0⟩ | ⟨g,cap,cur,e,h2,h3,h4,h5,-⟩⟩:=h
 ·omega
 simp only[aiK,true_and]at e;obtain⟨rfl,rfl⟩:=e;exact⟨h4,h5⟩
set_option maxRecDepth 100000 in
set_option maxHeartbeats 3200000 in
theorem uN{w:World}{s:bC}{x0 y0 z0:Int}(h:s.ok w)(hx:0≤x0∧x0≤65535)(hy:0≤y0∧y0≤4294967295)(hz:0≤z0∧z0≤255)(hg:bW w) :
  Calls Tryz.prog 6 #[s.v,.int .u16 x0,.int .u32 y0,.u z0] w fun r w'=>r = .returned (.bool true)∧Ext w w':=by
 obtain⟨x,rfl⟩:∃x:Nat,x0=(x:Int):=⟨x0.toNat,by omega⟩;obtain⟨z,rfl⟩:∃z:Nat,z0=(z:Int):=⟨z0.toNat,by omega⟩;obtain⟨T,rfl⟩:∃T:UInt32,y0=(T.toNat:Int):=⟨UInt32.ofNat y0.toNat,by simp; omega⟩;have hx2:x≤65535:=by omega
 clear hx hy hz;refine ahO Tryz.func6 Tryz.ntmps6 fun ac S=>ahK fun _ aY=>ahL S 4 s.cells fun ac u b2 E3 hb4 S=>adr S 1 [] [(8,.z)] fun S=>ahJ<|aY _ _<|ah2 fun _ dw=>ahK fun _ iT=>adr S 1 [.mem 0 0] [(18,s.v)] fun S=>ahS S 19 (yx ⟨(h.2.2.1.below S.E),fun n hn=>(h.2.2.2 n hn).below S.E⟩ 8) fun ac u E7 S=>adr S 1 [] [(20,.bool (!(s.few 8)))] fun S=>ahJ (iT _ _ ?_);refine ahN S (fun hc8=>?_) (fun hc8=>?_)
 ·refine ahK fun _ iD=>ahS S 21 (lV (bW.below hg S.E)) fun ac u Nw S=>adr S 1 [] [(8,.bool true)] fun S=>ahJ<|iD _ _<|ahM S Tryz.results6 ?_;exact⟨rfl,S.E⟩
 have hc0:s.few 8=true:=by have:=hc8; simpa using this
 have hS0:=(Bh hc0 h.1 h.2.1 h.2.2).1;refine ah4<|dw _ _<|ahK (fun _ dO=>?_);have R:=ai2 S;have q12:=S.E.size;have q13:=R.lt;refine adr S 1 [.mem 0 0] [(23,s.v)] fun S=>ahQ S (some 24) (mM (hS0.below S.E) (bW.below hg S.E)) ?_;rintro e u ⟨v1,er1,rfl,hsc1,yO⟩;refine⟨_,rfl,yO,fun ac S=>?_⟩;refine adr S 5 [] [(9,v1),(10,.i er1)] fun S=>ahJ<|dO _ _<|ah2 fun _ iJ=>ahK (fun _ jQ=>?_);rcases hsc1 with ⟨vs1,o1,rfl⟩ | ⟨vs1,rfl,rfl⟩
 ·have hl8:=Zm vs1;have agw:=RZ s.key;obtain⟨B,hB⟩:∃B,jD s.key=B:=⟨_,rfl⟩;rw[hB]at o1 hl8 agw;obtain⟨L,hL⟩:∃L,dL.app B=L:=⟨_,rfl⟩;have hLl:L.length=B.length+4:=by rw[←hL,pG]
  rw[hL]at o1 hl8;obtain⟨a1,c1,rfl⟩:=(rowB o1).shape;have hc1:L.length≤c1:=(O7 o1 (by omega)).1;have hc2:c1≤maxLen:=(O7 o1 (by omega)).2;unfold maxLen at hc2;obtain⟨R,Y17⟩:=R.bZ S (ait yO);have G18:Sx.Ow _ _ _ _:=Sx.Dep.ow (Sx.Jd (f:=fun n:UInt8=>[dQ n]) (L:=L) (fun _=>rfl) o1 rfl (Gs L).symm) q12 q13;refine adr S 6 [] [(32,.bool (((T.toNat:Int))==0))] fun S=>ahJ (jQ _ _ ?_);refine ahN S (fun hc19=>?_) (fun hc19=>?_)
  ·refine ahK fun _ kP=>ahS S 33 (lV (bW.below hg S.E)) fun ac u sF S=>adr S 1 [] [(8,.bool true)] fun S=>ahJ<|kP _ _<|ahM S Tryz.results6 ?_;exact⟨rfl,S.E⟩
  have hT:T≠0:=by rintro rfl; exact absurd hc19 (by decide)
  refine ah4<|iJ _ _<|ah2 fun _ kW=>ahK fun _ pR=>adr S 3 [] [(36,.bool ((L.length:Int)<8))] fun S=>ahJ (pR _ _ ?_);refine ahN S (fun hc24=>?_) (fun hc24=>?_)
  ·exact absurd (ain hc24) (by omega)
  refine ah4<|kW _ _<|ahK fun _ vI=>ah6 S 37 0 [] fun ac u b26 E27 abQ S=>adr S 1 [] [(38,.slice a1 L.length c1)] (fun S=>?_);obtain⟨R,Y29⟩:=R.bZ S (ajf E27 abQ);refine Sx.YN S R 39 pY (WQ u ⟨b26,0,none⟩) (acB (Sx.On.step G18 Y29).self) (by omega) (by omega) (by unfold maxLen; omega) (by omega) (fun ac u v2 Ea Xa R S=>?_);have R:=R.as (show [(⟨5,1,v2,0+L.length,[]++L.map dQ⟩:Sx.Row)]=[Sx.bR v2 L] by simp[Sx.bR]);obtain⟨g,cp,rfl⟩:=RY (R.own _ aiB) (by omega);refine adr S 1 [] [(11,.slice (some ⟨g,0,none⟩) L.length cp)] fun S=>ahJ<|vI _ _<|ahK (fun _ oJ=>?_);obtain⟨fr,hfr⟩:∃fr,x%(8*L.length-31)=fr:=⟨_,rfl⟩;have hfl:fr+32≤8*L.length:=by have:=ai3 x (show 0<8*L.length-31 by omega); omega
  refine adr S 8 [.re 41 (.i (IntKind.i64.wrap (x:Int))) (.i x),.re 44 (.i (IntKind.i64.wrap (8*(L.length:Int)))) (.i (8*L.length:Nat)),.re 45 (.i (IntKind.i64.wrap (((8*L.length:Nat):Int)-31))) (.i (8*L.length-31:Nat)),.cmp .rem 3 (.tmp 41) (.tmp 45) (.i x) (.i (8*L.length-31:Nat)) (.i fr)] [(12,.i fr)] (hk:=⟨(Sx.lG rfl (by omega)),(Sx.lG (by omega) (by omega)),(Sx.lG (by omega) (by omega)),(hfr▸acy x (8*L.length-31) (by omega)),trivial⟩) fun S=>ahJ<|oJ _ _<|ah2 fun _ qj=>ahK fun _ mG=>adr S 1 [] [(13,.i 0)] fun S=>ahJ<|mG _ _<|ah5 ?_;refine aiM (ι:=Nat) (fun p a' w'=>p≤32∧(True)∧Sx.Rw w w' [(b26,[]),(b2,s.cells)] [⟨5,1,.slice (some ⟨g,0,none⟩) L.length cp,L.length,(flips L fr T.toNat p).map dQ⟩]∧Sx.Ow w.heap.size (Sx.Ob [(b26,[]),(b2,s.cells)] [⟨5,1,.slice (some ⟨g,0,none⟩) L.length cp,L.length,(flips L fr T.toNat p).map dQ⟩]) (fun W=>aN 1 (fun n:UInt8=>[dQ n]) W (.slice a1 L.length c1) L) w'∧Sx.St w a' w' 104 [(0,s.v),(1,.int .u16 (x:Int)),(2,.int .u32 (T.toNat:Int)),(3,.u (z:Int)),(4,.q b2 0),(8,.z),(9,.slice a1 L.length c1),(10,.i 0),(11,.slice (some ⟨g,0,none⟩) L.length cp),(12,.i fr),(13,.i p)] [(b26,[]),(b2,s.cells)] []) (fun p=>32-p) (0) ⟨aij _,trivial,R,(Sx.On.step G18 (aiF Y29 Xa)),S.sn⟩ ?_;rintro k ac u hI;try dsimp only at hI
  obtain⟨hk,hR,R,WR,S⟩:=hI;have ahw:k≤32:=hk;refine ah2 fun _ kD=>ahK fun _ qE=>adr S 2 [] [(48,.bool ((k:Int)<32))] fun S=>ahJ (qE _ _ ?_);refine ahN S (fun Zn=>?_) (fun Zn=>?_)
  ·refine ah4<|kD _ _<|ah2 fun _ mY=>ah5<|ahK fun _ mD=>adr S 6 [.re 53 (.int .u64 (IntKind.u64.wrap (k:Int))) (.int .u64 (k:Int)),.cmp .shr 66 (.tmp 51) (.tmp 53) (.int .u32 (T.toNat:Int)) (.int .u64 (k:Int)) (.int .u32 ((T.toNat/2^k:Nat):Int)),.cmp .rem 66 (.tmp 54) (.const (.int .u32 2)) (.int .u32 ((T.toNat/2^k:Nat):Int)) (.int .u32 2) (.int .u32 ((T.toNat/2^k%2:Nat):Int)),.cmp .eql 66 (.tmp 55) (.const (.int .u32 1)) (.int .u32 ((T.toNat/2^k%2:Nat):Int)) (.int .u32 1) (.bool (T.toNat.testBit k))] [(56,.bool (T.toNat.testBit k))] (hk:=⟨(wrap_u64 (by omega)),(acu T k (by omega)),(Zk _),(acz T.toNat k),trivial⟩) fun S=>ahJ (mD _ _ ?_);refine ahN S (fun hc38=>?_) (fun hc38=>?_)
   ·have hkk:=ain Zn;have hfk:fr+k<8*L.length:=by omega
    obtain⟨jj,hjj⟩:∃j,(fr+k)/8=j:=⟨_,rfl⟩;obtain⟨rr,hrr⟩:∃j,(fr+k)%8=j:=⟨_,rfl⟩;have hjl:jj<L.length:=by omega
    have hr8:rr<8:=by omega
    have ad9:=nI L fr T.toNat k;obtain⟨y,hy⟩:∃y,(flips L fr T.toNat k).getD jj 0=y:=⟨_,rfl⟩;obtain⟨hr,hgl,hgn⟩:=R.range aiB rfl (0+jj*1) (cs:=[dQ ((flips L fr T.toNat k).getD jj 0)]) (acA (by omega));rw[hy]at hr;have S:=S.view hgl hr hgn;refine aia<|adr S 20 [.re 60 (.i (IntKind.i64.wrap ((fr:Int)+(k:Int)))) (.i (fr+k:Nat)),.re 61 (.i (IntKind.i64.wrap (Int.tdiv ((fr+k:Nat):Int) 8))) (.i jj),.re 65 (.i (IntKind.i64.wrap ((fr:Int)+(k:Int)))) (.i (fr+k:Nat)),.re 66 (.i (IntKind.i64.wrap (Int.tdiv ((fr+k:Nat):Int) 8))) (.i jj),.idx jj L.length,.mem 2 0,.re 71 (.i (IntKind.i64.wrap ((fr:Int)+(k:Int)))) (.i (fr+k:Nat)),.re 72 (.i (Int.tmod ((fr+k:Nat):Int) 8)) (.i rr),.re 73 (.int .u64 (IntKind.u64.wrap (rr:Int))) (.int .u64 (rr:Int)),.cmp .shl 5 (.const (.u 1)) (.tmp 73) (.u 1) (.int .u64 (rr:Int)) (.u (((1:UInt8)<<<UInt8.ofNat rr).toNat:Int)),.cmp .xor 5 (.tmp 68) (.tmp 74) (.u (y.toNat:Int)) (.u (((1:UInt8)<<<UInt8.ofNat rr).toNat:Int)) (.u ((y^^^((1:UInt8)<<<UInt8.ofNat rr)).toNat:Int)),.idx jj L.length] [(75,.u ((y^^^((1:UInt8)<<<UInt8.ofNat rr)).toNat:Int)),(76,.pointer (some ⟨g,0+jj*1,none⟩))] (hk:=⟨(Sx.lG (by omega) (by omega)),(hjj▸ad6 (by omega)),(Sx.lG (by omega) (by omega)),(hjj▸ad6 (by omega)),hjl,(Sx.lG (by omega) (by omega)),(hrr▸ad7 _ 8),(wrap_u64 (by omega)),(acv rr hr8),(acw y ((1:UInt8)<<<UInt8.ofNat rr)),hjl,trivial⟩) fun S=>Sx.QU S R 0 (off:=0+jj*1) (v:=dQ (y^^^((1:UInt8)<<<UInt8.ofNat rr))) rfl rfl (by show _≤((flips L fr T.toNat k).map dQ).length; simp; omega) fun u X39 R S=>ahJ<|mY _ _<|aia<|adr S 3 [.re 50 (.i (IntKind.i64.wrap ((k:Int)+1))) (.i (k+1:Nat))] [(13,.i (k+1:Nat))] (hk:=⟨ahY (by omega),trivial⟩) fun S=>ahJ ?_;show ∃i',_∧_;exact⟨(k+1),⟨by omega,trivial,R.as (aic (fun xs=>[(⟨5,1,.slice (some ⟨g,0,none⟩) L.length cp,L.length,xs⟩:Sx.Row)]) (show Sx.spl ((flips L fr T.toNat k).map dQ) (0+jj*1) [dQ (y^^^((1:UInt8)<<<UInt8.ofNat rr))]=(flips L fr T.toNat (k+1)).map dQ by rw[Zl (by omega),WJ L fr T.toNat k hc38 hfk]; unfold flip; rw[hjj,hrr,hy])),(Sx.On.step WR X39),S.sn⟩,by show _-_<_-_; omega⟩
   refine ah4<|mY _ _<|aia<|adr S 3 [.re 50 (.i (IntKind.i64.wrap ((k:Int)+1))) (.i (k+1:Nat))] [(13,.i (k+1:Nat))] (hk:=⟨ahY (by omega),trivial⟩) fun S=>ahJ ?_;show ∃i',_∧_;have hkk:=ain Zn;exact⟨(k+1),⟨by omega,trivial,R.as (aic (fun xs=>[(⟨5,1,.slice (some ⟨g,0,none⟩) L.length cp,L.length,xs⟩:Sx.Row)]) (show(flips L fr T.toNat k).map dQ=(flips L fr T.toNat (k+1)).map dQ by rw[RU L fr T.toNat k (fun hh=>by rw[hc38]at hh; cases hh.1)])),WR,S.sn⟩,by show _-_<_-_; omega⟩
  refine ail<|qj _ _<|ahK fun _ xX=>adr S 1 [] [(78,.slice (some ⟨g,0,none⟩) L.length cp)] (fun S=>?_);have hkk:=aiu Zn;obtain rfl:k=32:=by omega
  have ad9:=nI L fr T.toNat 32;have hby:=rowB (show OwnB _ _ _ (flips L fr T.toNat 32) by have:=R.own _ aiB; rw[OwnB,ad9]; exact this);refine ahQ S (some 79) (CG hby (by omega) (fun m'=>by have:=RV B fr T hT (by omega) m'; rw[hL]at this; exact this)) ?_;rintro e u ⟨er2,rfl,hor,Z8⟩;obtain rfl:er2=19:=by rcases hor with ⟨-,h⟩ | ⟨h,-⟩; (omega); exact h
  refine⟨_,rfl,Z8,fun ac S=>?_⟩;refine adr S 3 [] [(80,.agg #[.i 0,.i 0,.u 0,.u 0,.u 0,.u 0,.sn]),(81,.i 19)] fun S=>ahL S 14 [.i 0,.i 0,.u 0,.u 0,.u 0,.u 0,.sn] fun ac u b42 E43 agx S=>ahP S 0 (off:=0) (cs:=[.i 0,.i 0,.u 0,.u 0,.u 0,.u 0,.sn]) rfl fun u C45 S=>adr S 1 [] [(15,.i 19)] fun S=>ahJ<|xX _ _<|ahK fun _ zB=>adr S 4 [.re 85 (.u (Int.tmod (z:Int) 4)) (.u ((z%4:Nat):Int)),.slc 0 (z%4) c1 c1] [(86,.slice (Sx.OG a1 0 c1 1) (z%4) c1)] (fun S=>?_) (hk:=⟨(ad8 z),(by omega),trivial⟩);obtain⟨R,Y47⟩:=R.bZ S (aiF (ait Z8) (aiF (ajf E43 agx) (Sx.Stp.chm C45 (by simp[Sx.vb]))));refine ahQ S (some 87) (CG (Sx.BR (m:=c1) (Sx.On.step WR Y47).self (aij (z%4)) (by omega) (by omega) (ah9 _)) (by simp; omega) (fun m'=>Si (by simp; omega) m')) ?_;rintro e u ⟨er3,rfl,agy,E48⟩;obtain rfl:er3=4:=by rcases agy with ⟨h,-⟩ | ⟨-,h⟩; (exact h); (simp at h; omega)
  refine⟨_,rfl,E48,fun ac S=>?_⟩;refine adr S 3 [] [(88,.agg #[.i 0,.i 0,.u 0,.u 0,.u 0,.u 0,.sn]),(89,.i 4)] fun S=>ahL S 16 [.i 0,.i 0,.u 0,.u 0,.u 0,.u 0,.sn] fun ac u b49 E50 ado S=>ahP S 0 (off:=0) (cs:=[.i 0,.i 0,.u 0,.u 0,.u 0,.u 0,.sn]) rfl fun u C52 S=>adr S 1 [] [(17,.i 4)] fun S=>ahJ<|zB _ _<|ahK fun _ aaX=>adr S 5 [.mem 1 0] [(92,.bool true),(93,.agg #[.i 0,.i 0,.u 0,.u 0,.u 0,.u 0,.sn]),(94,.agg #[.i 0,.i 0,.u 0,.u 0,.u 0,.u 0,.sn])] fun S=>Sx.yG S (some 95) (kR (zk (K:=20) (tu _) (tu _)) (aic Value.bool (ajd rfl))) ?_;rintro e u ⟨rfl,E54⟩;refine⟨_,rfl,E54,fun ac S=>?_⟩;refine adr S 6 [] [(101,.bool true)] fun S=>Sx.yG S (some 102) (lV (bW.below hg S.E)) ?_;rintro e u ⟨rfl,Tf⟩;refine⟨_,rfl,Tf,fun ac S=>?_⟩;refine adr S 2 [] [(8,.bool true)] fun S=>ahJ<|aaX _ _<|ahM S Tryz.results6 ?_;exact⟨rfl,S.E⟩
 refine adr S 6 [.dead 30 (.z),.dead 31 (.z)] [(32,.bool true)] fun S=>ahJ<|jQ _ _<|ahV S<|ahK fun _ Ad=>ahS S 33 (lV (bW.below hg S.E)) fun ac u E57 S=>adr S 1 [] [(8,.bool true)] fun S=>ahJ<|Ad _ _<|ahM S Tryz.results6 ?_;exact⟨rfl,S.E⟩
end
end Go.Proofs.YtapmgonflgahbaaGreatDoor
