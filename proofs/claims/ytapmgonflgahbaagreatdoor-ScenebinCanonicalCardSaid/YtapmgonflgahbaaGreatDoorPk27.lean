/- Pixels: reference 46's comparison, the encoder. -/
import Derived.Test.YtapmgonflgahbaaGreatDoorPk25
import Derived.Test.YtapmgonflgahbaaGreatDoorEncW1
set_option linter.unusedVariables false
namespace Go.Proofs.YtapmgonflgahbaaGreatDoor
open _root_.Go.Proofs.Tryz
section
set_option maxHeartbeats 3200000
set_option maxRecDepth 100000
open Go.RowKit
variable{α:Type}{K:Nat}
abbrev amX (w:World)(v:Value)(L:List bW):Prop:=aO 4 bW.cells w v L
theorem Qg{w0 w:World}{bl:List (Nat×List Value)}(R:Sx.Rw w0 w bl []):Sx.Rw w0 w bl [⟨5,1,.sn,0,[]⟩]:=
 ⟨fun r hr=>by obtain rfl:=axl.1 hr; exact⟨rfl,.inl ⟨rfl,rfl⟩⟩,R.lt,R.apart⟩
theorem aiH(c d:bW)(w:World):(binOp .eql 192 (.agg c.cells.toArray) (.agg d.cells.toArray)).run prog w = .ok (.bool (c=d)) w:=by
 rw[←KX]; exact agn ..
structure Wp where
 a:Option Addr
 c:Nat
 l:List UInt8
def Wp.v(p:Wp):Value := .slice p.a p.l.length p.c
abbrev iQ (w:World)(v:Value)(l:List UInt8):Prop:=aO 1 (fun n:UInt8=>[fA n]) w v l
theorem JQ{w:World}{p:bW} :
  Calls prog 148 #[.agg p.cells.toArray] w fun e w'=>∃v,e = .returned v∧OwnB w.heap.size w' v (Px.pb p)∧Ext w w':=by
 skip;refine avU func148 ntmps148 fun ac S=>avP fun _ aV=>avQ S 1 p.cells fun ac u b2 E3 hb4 S=>adr S 1 [] [(2,.sn)] fun S=>apB<|aV _ _<|avP fun _ dA=>adr S 8 [.mem 0 0,.mem 0 1,.mem 0 2,.mem 0 3] [(4,.u (p.r.toNat:Int)),(6,.u (p.g.toNat:Int)),(8,.u (p.b.toNat:Int)),(10,.u (p.a.toNat:Int))] (fun S=>?_);have R:=aw3 S;refine Sx.newRow S R 11 4 5 1 p.cells fun ac u v6 E7 X8 R S=>adr S 1 [] [(2,v6)] fun S=>apB<|dA _ _<|avS S results148 ?_;exact⟨_,rfl,R.own _ awK,S.E⟩
theorem UA{w:World}{v:Value}{L:List bW}(h:amX w v L)(hn:L.length≤1000000) :
  Calls prog 146 #[v] w fun e w'=>∃v',e = .returned v'∧OwnB w.heap.size w' v' (Px.enc L)∧Ext w w':=by
 obtain⟨a,cap,rfl⟩:=h.shape;refine avU func146 ntmps146 fun ac S=>avP fun _ aV=>adr S 1 [] [(2,.sn)] fun S=>apB<|aV _ _<|avP fun _ fK=>adr S 1 [] [(3,.sn)] fun S=>apB<|fK _ _<|awg fun _ jC=>avP fun _ nT=>adr S 1 [] [(4,.i 0)] fun S=>apB<|nT _ _<|awi ?_;have R:=aw3 S;have R:=Qg R;refine awS (ι:=Nat×Value×List (Nat×bW)) (fun p a' w'=>(Px.Ba L p.1 p.2.2)∧Sx.Rw w w' [] [⟨5,1,p.2.1,(Px.rb p.2.2).length,(Px.rb p.2.2).map fA⟩]∧Sx.St w a' w' 44 [(0,.slice a L.length cap),(2,.sn),(3,p.2.1),(4,.i p.1)] [] []) (fun p=>L.length-p.1) (0,(.sn),[]) ⟨Px.Ba.zero L,R,S.sn⟩ ?_;rintro⟨i,v,Rn⟩ ac u hI;try dsimp only at hI
 obtain⟨hR,R,S⟩:=hI;have hE:=hR;refine awg fun _ dA=>avP fun _ jq=>adr S 4 [] [(9,.bool ((i:Int)<(L.length:Int)))] fun S=>apB (jq _ _ ?_);refine avR S (fun oL=>?_) (fun oL=>?_)
 ·refine awh<|dA _ _<|awi<|avP (fun _ dS=>?_);have hi:i<L.length:=by have:=awz oL; omega
  obtain⟨x,hx⟩:∃z,L[i]=z:=⟨_,rfl⟩;refine adr S 2 [] [(5,.i i)] fun S=>apB<|dS _ _<|awg (fun κq ig=>?_);have J10:∀(k:Nat) (ac:Act) (u:World),(Sx.Rw w u [] [⟨5,1,v,(Px.rb Rn).length,(Px.rb Rn).map fA⟩])→(k≤L.length)→(i≤k)→(∀(j:Nat) (hj:j<L.length),i≤j→j<k→L[j]=x)→(∀h:k<L.length,L[k]≠x)→Sx.St w ac u 44 [(0,.slice a L.length cap),(2,.sn),(3,v),(4,.i i),(5,.i k)] [] []→κq ac u:=by
   intro k ac u R hkl hik hall hend S;refine ig _ _<|avP (fun _ eG=>?_);have hlt:i<k:=by rcases aw4 i k with h | h; exact h; obtain rfl:k=i:=(by omega); exact absurd hx (hend hi)
   refine adr S 5 [.re 31 (.i (IntKind.i64.wrap ((k:Int)-(i:Int)))) (.i (k-i:Nat)),.re 32 (.int .u64 (IntKind.u64.wrap ((k-i:Nat):Int))) (.int .u64 ((k-i:Nat):Int))] [(28,v),(32,.int .u64 ((k-i:Nat):Int))] (hk:=⟨(Sx.qg (by omega) (by omega)),(wrap_u64 (by omega)),trivial⟩) fun S=>avV S (some 33) (gq (k-i) _ (by omega)) ?_;rintro e u ⟨v33,rfl,aqr,qN⟩;refine⟨_,rfl,qN,fun ac S=>?_⟩;have hrb:=Px.aiy hE.good;rw[hE.flat,ayw]at hrb;have hu9:(En.fZ 10 (k-i)).length≤10:=En.kK 10 _;obtain⟨R,Y13⟩:=R.bV S (awJ qN);refine Sx.app S R 0 34 rfl tC (jH (aqr)) (by show(Px.rb Rn).length+(En.fZ 10 (k-i)).length≤9223372036854775807; omega) (by show((Px.rb Rn).length+(En.fZ 10 (k-i)).length)*1≤140737488355328; omega) fun ac u v14 X15 R S=>adr S 1 [] [(3,v14)] fun S=>apB<|eG _ _<|avP (fun _ iR=>?_);have amY:i<L.length:=by omega
   obtain⟨b17,o18,rfl,y23,aqs,aew,aqt⟩:=awN h (fun _=>rfl) (i) amY;have S:=S.view0 aew aqt;refine adr S 5 [.idx i L.length,.mem 0 0] [(35,v14),(39,.agg y23.cells.toArray)] (hk:=⟨amY,trivial⟩) fun S=>avV S (some 40) (JQ (p:=y23)) ?_;rintro e u ⟨v40,rfl,amZ,IL⟩;rw[show y23=x from by rw[←aqs]; exact hx]at amZ;refine⟨_,rfl,IL,fun ac S=>?_⟩;obtain⟨R,Y26⟩:=R.bV S (awJ IL);refine Sx.app S R 0 41 rfl tC (jH (amZ)) (by show(Px.rb Rn).length+(En.fZ 10 (k-i)).length+4≤9223372036854775807; omega) (by show((Px.rb Rn).length+(En.fZ 10 (k-i)).length+4)*1≤140737488355328; omega) fun ac u v27 X28 R S=>adr S 1 [] [(3,v27)] fun S=>apB<|iR _ _<|awk<|adr S 2 [] [(4,.i k)] fun S=>apB ?_;show ∃i',_∧_;exact⟨(k,v27,(Rn++[(k-i,x)])),⟨hE.step hi hx hlt hkl hall hend,R.as (show [(⟨5,1,v27,(Px.rb Rn).length+(En.fZ 10 (k-i)).length+4,(Px.rb Rn).map fA++(En.fZ 10 (k-i)).map fA++(Px.pb x).map fA⟩:Sx.Row)]=[⟨5,1,v27,(Px.rb (Rn++[(k-i,x)])).length,(Px.rb (Rn++[(k-i,x)])).map fA⟩] by rw[Px.aeZ]; simp[Px.pb,Nat.add_assoc]),S.sn⟩,by show _-_<_-_; omega⟩
  refine awi ?_;refine awS (ι:=Nat) (fun p a' w'=>((i≤p∧p≤L.length)∧∀(j:Nat) (hj:j<L.length),i≤j→j<p→L[j]=x)∧Sx.Rw w w' [] [⟨5,1,v,(Px.rb Rn).length,(Px.rb Rn).map fA⟩]∧Sx.St w a' w' 44 [(0,.slice a L.length cap),(2,.sn),(3,v),(4,.i i),(5,.i p)] [] []) (fun p=>L.length-p) (i) ⟨⟨⟨awm _,by omega⟩,fun j hj h1 h2=>by omega⟩,R,S.sn⟩ ?_;rintro k ac u hI;try dsimp only at hI
  obtain⟨hR,R,S⟩:=hI;have hrk:=hR.1;refine awg fun _ pO=>awg (fun _ kM=>?_);by_cases aqu:k<L.length
  ·have am0:k<L.length:=by omega
   obtain⟨b33,o34,rfl,y39,am1,amM,aqv⟩:=awN h (fun _=>rfl) (k) am0;have S:=S.view0 amM aqv;have am2:i<L.length:=by omega
   obtain⟨y47,am3,hb48,aqw⟩:=Vp.aqx h (fun _=>rfl) (i) am2;have S:=S.view0 hb48 aqw;refine av3 S 15 [.re 14 (.bool ((k:Int)<(L.length:Int))) (.bool true),.idx k L.length,.mem 1 0,.idx i L.length,.mem 0 0,.cmp .eql 192 (.tmp 19) (.tmp 23) (.agg #[.u (y39.r.toNat:Int),.u (y39.g.toNat:Int),.u (y39.b.toNat:Int),.u (y39.a.toNat:Int)]) (.agg #[.u (y47.r.toNat:Int),.u (y47.g.toNat:Int),.u (y47.b.toNat:Int),.u (y47.a.toNat:Int)]) (.bool (y39=y47))] [] [(25,.bool (y39=y47))] trivial (hk:=⟨(awp Value.bool (axg (by omega))),am0,am2,(awe (fun _=>aiH y39 y47 _) (by kernel_rfl)),trivial⟩) fun ac u E32 S=>apB (kM _ _ ?_);refine avR S (fun YP=>?_) (fun YP=>?_)
   ·refine awh<|pO _ _<|awi<|awk<|adr S 3 [.re 27 (.i (IntKind.i64.wrap ((k:Int)+1))) (.i (k+1:Nat))] [(5,.i (k+1:Nat))] (hk:=⟨av5 (by omega),trivial⟩) fun S=>apB ?_;obtain⟨R,Y50⟩:=R.bV S (awJ E32);show ∃i',_∧_;exact⟨(k+1),⟨⟨⟨by omega,by omega⟩,fun j hj h1 h2=>by
     by_cases e:j=k
     ·subst e; have:=YP; rw[am1]; rw[←hx,am3]; simpa using this
     exact hR.2 j hj h1 (by omega)⟩,R,S.sn⟩,by show _-_<_-_; omega⟩
   refine awy ?_;obtain⟨R,Y51⟩:=R.bV S (awJ E32);exact J10 k _ _ R hR.1.2 hR.1.1 hR.2 (fun h e=>by rw[am1]at e; subst e; have:=YP; rw[←hx,am3]at this; simp at this) S.sn
  refine av3 S 15 [.re 14 (.bool ((k:Int)<(L.length:Int))) (.z),.dead 16 (.z),.dead 17 (.z),.dead 18 (.z),.dead 19 (.z),.dead 20 (.z),.dead 21 (.z),.dead 22 (.z),.dead 23 (.z),.dead 24 (.z)] [] [(25,.z)] trivial (hk:=⟨(awp Value.bool (ax0 (by omega))),trivial⟩) fun ac u E52 S=>apB<|kM _ _<|av4 S<|awy ?_;obtain⟨R,Y53⟩:=R.bV S (awJ E52);exact J10 k _ _ R hR.1.2 hR.1.1 hR.2 (fun h=>absurd h aqu) S.sn
 refine awy<|jC _ _<|avP fun _ BP=>adr S 2 [] [(2,v)] fun S=>apB<|BP _ _<|avS S results146 ?_;exact⟨_,rfl,by rw[←hE.done (by have:=awG oL; omega)]; exact R.own _ awK,S.E⟩
end
section
open Go.RowKit Go.ChangeShapes Go.WideShapes
section
variable{H:Type}{enc:TypeId×Value→H}{W:World}{sp:Nat→Bool}{held:Bool}
set_option maxRecDepth 100000
theorem aeK{base:Nat}{v:Value}{d:DataW H}{p:List MemPlace}(hv:Value.okWide prog W .any base 49 v)(h:DataW.Trod enc prog W 0 sp held 49 v d p):∃m:Wp,v=m.v∧iQ W m.v m.l:=by
 obtain⟨a,len,cap,rfl⟩:=okWide_slice underlying49 hv;obtain⟨fuel,hf⟩:=h;have hf:DataW.trod enc prog W 0 sp held fuel 49 [.slice a len cap]=some (d,p):=by simpa[Value.cells]using hf
 obtain⟨a1,k1,l1,e1,r1,-⟩:=pJ (k:=1) underlying49 (by decide) (by kernel_rfl) (fun n:UInt8=>[fA n]) (fun _=>True) (fun n cs y h=>(tV underlying5 h).imp fun _ h=>⟨h,trivial⟩) hf;have e2:Value.slice a len cap = .slice a1 l1.length k1:=by simpa using e1
 exact⟨⟨a1,k1,l1⟩,e2,r1⟩
end
end
section
set_option maxHeartbeats 1600000
set_option maxRecDepth 100000
open Go.RowKit
variable{α:Type}{K:Nat}
def RV(l:List UInt8)(p:Nat)(bad:Bool)(n:Nat):Nat:=if (bad||decide (l.length<p+n))=true then p else p+n
def Dh(l:List UInt8)(p:Nat)(bad:Bool)(n:Nat):Bool:=bad||decide (l.length<p+n)
def Rj(l:List UInt8)(p:Nat)(bad:Bool)(n:Nat):List UInt8:=if (bad||decide (l.length<p+n))=true then List.replicate n 0 else (l.drop p).take n
theorem CO{l:List UInt8}{p n:Nat}{bad:Bool}(h:Dh l p bad n=true):RV l p bad n=p∧Rj l p bad n=List.replicate n 0:=by
 unfold Dh at h; unfold RV Rj; rw[awl h,awl h]; exact⟨rfl,rfl⟩
theorem He{l:List UInt8}{p n:Nat}{bad:Bool}(h:Dh l p bad n=false):bad=false∧p+n≤l.length∧RV l p bad n=p+n∧Rj l p bad n=(l.drop p).take n:=by
 unfold Dh at h; unfold RV Rj; rw[h];simp only[aw9,axw]at h;exact⟨h.1,by omega,by simp,by simp⟩
theorem Wq{l:List UInt8}{p n:Nat}{bad:Bool}:(Rj l p bad n).length=n:=by
 cases h:Dh l p bad n
 ·obtain⟨-,h1,-,h2⟩:=He h; rw[h2]; simp; omega
 rw[(CO h).2]; simp
theorem RX{l:List UInt8}{p n:Nat}{bad:Bool}(hp:p≤l.length):RV l p bad n≤l.length:=by
 cases h:Dh l p bad n
 ·obtain⟨-,h1,h2,-⟩:=He h; omega
 rw[(CO h).1]; exact hp
theorem ae8{l:List UInt8}{p:Nat}{bad:Bool}:∃q:bW,Rj l p bad 4=Px.pb q:=by
 have h:=@Wq l p 4 bad;match h1:Rj l p bad 4,h with
 | [a,b,c,d],_=>exact⟨⟨a,b,c,d⟩,rfl⟩
theorem aI{b b2:Nat}{w u u':World}(h:Ch b w u)(c:Ch b2 u u')(hb:b2=b∨w.heap.size≤b2):Ch b w u':=by
 rcases hb with rfl | hb
 ·exact h.trans c
 exact⟨c.os.trans h.os,c.tape.trans h.tape,c.output.trans h.output,awU h.size c.size,fun i hi hn=>(c.block i (awR hi h.size) (fun e=>by simp only[awn]at e; omega)).trans (h.block i hi hn)⟩
theorem Qh{w:World}{a:Option Addr}{l:List UInt8}{c p n:Nat}(h:iQ w (.slice a l.length c) l)(hp:p+n≤l.length)(hn:0<n):l.length≤c∧∃bk o,a=some ⟨bk,o,none⟩∧bk<w.heap.size∧w.rangeAt bk (o+p) (((l.drop p).take n).map fA):=by
 obtain⟨a',cap,hv,hm,hh⟩:=h;simp only[aw1,true_and]at hv;obtain⟨rfl,rfl⟩:=hv;rcases hh with ⟨rfl,-⟩ | ⟨bk,o,rfl,hb,hl,hc⟩
 ·simp only[axn]at hp; omega
 refine⟨hl,bk,o,rfl,hb,fun j v hj=>?_⟩;have hjn:j<n:=by
  have:=(List.getElem?_eq_some_iff.1 hj).1;simp only[ayo,ayw,ayp]at this; omega
 have h1:=hc (p+j) (by omega) 0 (by omega);rw[List.getElem?_map,List.getElem?_take_of_lt hjn,List.getElem?_drop,List.getElem?_eq_getElem (by omega)]at hj;obtain rfl:=awx hj;rw[show o+p+j=o+(p+j)*1+0 by omega,h1]; rfl
theorem acy{w0:World}{a:Option Addr}{l:List UInt8}{c p:Nat}(h:iQ w0 (.slice a l.length c) l)(hp:p+4≤l.length) :
  ∃bk o,(.slice (Sx.P7 a p c 1) (p+4-p) (c-p):Value) = .slice (some ⟨bk,o,none⟩) 4 (c-p)∧bk<w0.heap.size∧w0.rangeAt bk o (((l.drop p).take 4).map fA):=by
 obtain⟨hl,bk,o,rfl,hb,hr⟩:=Qh h hp (by omega);refine⟨bk,o+p*1,?_,hb,by rw[Nat.mul_one]; exact hr⟩;unfold Sx.P7;rw[awj (by omega),ayN]; simp[Addr.add]
theorem YQ{w0 w:World}{b p cap:Nat}{a:Option Addr}{bad pk:Bool}{l:List UInt8}(hE:Ext w0 w)(hx:Bx w b #[.slice a l.length cap,.i p,.bool bad,.bool pk])(hb:w0.heap.size≤b)(h:iQ w0 (.slice a l.length cap) l)(hp:p≤l.length) :
  Calls prog 104 #[.q b 0,.i 4] w fun e w'=>∃bk o c,e = .returned (.slice (some ⟨bk,o,none⟩) 4 c)∧w'.rangeAt bk o ((Rj l p bad 4).map fA)∧bk<w'.heap.size∧(bk<w0.heap.size∨w.heap.size≤bk)∧Ext w0 w'∧Ch b w w'∧Bx w' b #[.slice a l.length cap,.i (RV l p bad 4:Nat),.bool (Dh l p bad 4),.bool pk]:=by
 have hml:l.length≤9223372036854775807:=h.len;refine axc func104 ntmps104 hE hx hb fun ac S=>avP fun _ aV=>adr S 1 [] [(4,.sn)] fun S=>apB<|aV _ _<|awg fun _ fK=>awg fun _ jC=>av3 S 22 [.mem 0 2,.mem 0 0,.mem 0 1,.re 24 (.i (IntKind.i64.wrap ((l.length:Int)-(p:Int)))) (.i (l.length-p:Nat))] [] [(26,.bool ((bad||false)||(decide (((l.length-p:Nat):Int)<4))))] trivial (hk:=⟨(Sx.qg (by omega) (by omega)),trivial⟩) fun ac u E4 S=>apB (jC _ _ ?_);refine avR S (fun hc5=>?_) (fun hc5=>?_)
 ·refine avP fun _ jq=>adr S 3 [] [(29,.q b 2)] fun S=>av1 S 0 (off:=2) (v := .bool true) rfl (fun u C7 S=>?_);have Fs8:=(aI ((Ch.trans (Ch.refl b w) (Ch.bf E4))) C7 (by first | exact .inl rfl | exact .inr (by omega)));refine apB<|jq _ _<|avP (fun _ ig=>?_);have hws:=(Fs8).size;refine adr S 3 [] [(32,.i 4)] fun S=>awc S 33 4 [.u 0,.u 0,.u 0,.u 0] fun ac u b10 tJ PE S=>adr S 1 [] [(4,.slice (some ⟨b10,0,none⟩) 4 4)] fun S=>apB<|ig _ _<|awq ?_;have hbad:Dh l p bad 4=true:=by unfold Dh; cases bad; (simp at hc5 ⊢; omega); rfl
  refine av2 S results104 ?_;exact⟨_,_,_,rfl,by rw[(CO hbad).2]; exact(S.bx 0).range 0 4 rfl,(S.bx 0).1,.inr (by have:=PE; omega),S.E,((Ch.trans Fs8 (Ch.bf tJ))),by rw[(CO hbad).1,hbad]; exact S.bx 1⟩
 have hok:Dh l p bad 4=false:=by unfold Dh; cases bad; (simp at hc5 ⊢; omega); simp at hc5
 have hlen:=(He hok).2.1;have hcap:=Sx.G7 h;refine awh<|fK _ _<|avP fun _ gW=>adr S 8 [.mem 0 1,.re 39 (.i (IntKind.i64.wrap ((p:Int)+4))) (.i (p+4:Nat))] [(39,.i (p+4:Nat)),(41,.q b 1)] (hk:=⟨(Sx.qg (by omega) (by omega)),trivial⟩) fun S=>av1 S 0 (off:=1) (v := .i (p+4:Nat)) rfl (fun u C14 S=>?_);have rJ:=(aI ((Ch.trans (Ch.refl b w) (Ch.bf E4))) C14 (by first | exact .inl rfl | exact .inr (by omega)));refine apB<|gW _ _<|awg fun _ iR=>av3 S 15 [.mem 0 0,.mem 0 1,.re 51 (.i (IntKind.i64.wrap (((p+4:Nat):Int)-4))) (.i p),.mem 0 1,.slc p (p+4) cap cap] [] [(56,.slice (Sx.P7 a p cap 1) (p+4-p) (cap-p))] trivial (hk:=⟨(Sx.qg (by omega) (by omega)),(by omega),trivial⟩) fun ac u uS S=>adr S 1 [] [(4,.slice (Sx.P7 a p cap 1) (p+4-p) (cap-p))] fun S=>apB<|iR _ _<|awq ?_;obtain⟨bk,o,hv,hk1,hr⟩:=acy h hlen;have ho:=He hok;refine av2 S results104 ?_;exact⟨bk,o,cap-p,awp Ending.returned hv,by rw[ho.2.2.2]; exact Vp.qJ hr hk1 S.E,awR hk1 S.E.size,.inl hk1,S.E,((Ch.trans rJ (Ch.bf uS))),by rw[ho.2.2.1,hok]; have:=S.bx 0; rw[ho.1]at this; exact this⟩
theorem wU{w0 w:World}{b p cap:Nat}{a:Option Addr}{bad pk:Bool}{l:List UInt8}(hE:Ext w0 w)(hx:Bx w b #[.slice a l.length cap,.i p,.bool bad,.bool pk])(hb:w0.heap.size≤b)(h:iQ w0 (.slice a l.length cap) l)(hp:p≤l.length) :
  Calls prog 51 #[.q b 0] w fun e w'=>∃q:bW,e = .returned (.agg q.cells.toArray)∧Px.pb q=Rj l p bad 4∧Ext w0 w'∧Ch b w w'∧Bx w' b #[.slice a l.length cap,.i (RV l p bad 4:Nat),.bool (Dh l p bad 4),.bool pk]:=by
 skip;refine axc func51 ntmps51 hE hx hb fun ac S=>avP fun _ aV=>avQ S 2 [.u 0,.u 0,.u 0,.u 0] fun ac u b2 E3 hb4 S=>apB<|aV _ _<|avP fun _ dA=>adr S 1 [] [(4,.q b 0)] (fun S=>?_);have hz0:=S.bx 0;have hz1:=S.bx 1;have hz2:=S.old 0;refine Sx.pV S 1 [.slice a l.length cap,.i (RV l p bad 4:Nat),.bool (Dh l p bad 4),.bool pk] (some 5) rfl (YQ S.E (S.bx 1) (S.old 1) h hp) ?_;rintro e u ⟨bk,ok,ck,rfl,hr,hlt,hor,Xz,DX,XA⟩;refine⟨_,rfl,Xz,DX,XA,fun ac S=>?_⟩;have NK:=(aI ((Ch.trans (Ch.refl b w) (Ch.bf E3))) DX (by first | exact .inl rfl | exact .inr (by omega)));obtain⟨q,hq⟩:=@ae8 l p bad;rw[hq]at hr;have S:=S.view (cs:=q.cells) hlt hr (fun p hp=>by rcases aww.1 hp with rfl | hp; (have:=hz0.1; rcases hor with h | h<;>(intro e; simp only at e; omega)); obtain rfl:=axl.1 hp; (have:=hz1.1; rcases hor with h | h<;>(intro e; simp only at e; omega)));refine adr S 1 [] [(3,.slice (some ⟨bk,ok,none⟩) 4 ck)] fun S=>apB<|dA _ _<|awg fun _ dS=>av3 S 13 [.idx 0 4,.mem 2 0,.idx 1 4,.mem 2 1,.idx 2 4,.mem 2 2,.idx 3 4,.mem 2 3] [] [(18,.agg q.cells.toArray)] trivial (hk:=⟨(by decide),(by decide),(by decide),(by decide),trivial⟩) fun ac u E9 S=>avT S 0 (off:=0) (cs:=q.cells) rfl (fun u C10 S=>?_);have OU:=(aI ((Ch.trans NK (Ch.bf E9))) C10 (by first | exact .inl rfl | exact .inr (by omega)));refine apB<|dS _ _<|awd S 0 results51 rfl (v := .agg q.cells.toArray) ?_;exact⟨q,rfl,hq.symm,S.E,OU,S.bx 1⟩
theorem N8{w0 w:World}{b p cap:Nat}{a:Option Addr}{bad pk:Bool}{l:List UInt8}(hE:Ext w0 w)(hx:Bx w b #[.slice a l.length cap,.i p,.bool bad,.bool pk])(hb:w0.heap.size≤b)(h:iQ w0 (.slice a l.length cap) l)(hp:p≤l.length) :
  Calls prog 173 #[.q b 0] w fun e w'=>∃q:bW,e = .returned (.agg q.cells.toArray)∧Px.pb q=Rj l p bad 4∧Ext w0 w'∧Ch b w w'∧Bx w' b #[.slice a l.length cap,.i (RV l p bad 4:Nat),.bool (Dh l p bad 4),.bool pk]:=by
 skip;refine axc func173 ntmps173 hE hx hb fun ac S=>avP fun _ aV=>avQ S 2 [.u 0,.u 0,.u 0,.u 0] fun ac u b2 E3 hb4 S=>apB<|aV _ _<|avP fun _ dA=>adr S 1 [] [(3,.q b 0)] fun S=>Sx.pV S 1 [.slice a l.length cap,.i (RV l p bad 4:Nat),.bool (Dh l p bad 4),.bool pk] (some 4) rfl (wU S.E (S.bx 1) (S.old 1) h hp) ?_;rintro e u ⟨q,rfl,hq,Xz,DX,XA⟩;refine⟨_,rfl,Xz,DX,XA,fun ac S=>?_⟩;have NK:=(aI ((Ch.trans (Ch.refl b w) (Ch.bf E3))) DX (by first | exact .inl rfl | exact .inr (by omega)));refine avT S 0 (off:=0) (cs:=q.cells) rfl (fun u C8 S=>?_);have Fs9:=(aI NK C8 (by first | exact .inl rfl | exact .inr (by omega)));refine apB<|dA _ _<|awd S 0 results173 rfl (v := .agg q.cells.toArray) ?_;exact⟨q,rfl,hq,S.E,Fs9,S.bx 1⟩
end
end Go.Proofs.YtapmgonflgahbaaGreatDoor
