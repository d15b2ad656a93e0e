/- Pixels: reference 46's comparison, the encoder. Reading -/
import Derived.Test.YtapmgonflgahbaaGreatDoorPk31
import Derived.Test.YtapmgonflgahbaaGreatDoorEncW1
set_option linter.unusedVariables false
namespace Go.Proofs.YtapmgonflgahbaaGreatDoor
open _root_.Go.Proofs.Tryz
section
set_option maxHeartbeats 3200000
set_option maxRecDepth 100000
open Go.RowKit
variable{α:Type}{K:Nat}
abbrev adP (w:World)(v:Value)(L:List dA):Prop:=aN 4 dA.cells w v L
theorem Jy{w0 w:World}{bl:List (Nat×List Value)}(R:Sx.Rw w0 w bl []):Sx.Rw w0 w bl [⟨5,1,.sn,0,[]⟩]:=
 ⟨fun r hr=>by obtain rfl:=akb.1 hr; exact⟨rfl,.inl ⟨rfl,rfl⟩⟩,R.lt,R.apart⟩
theorem abS(c d:dA)(w:World):(binOp .eql 192 (.agg c.cells.toArray) (.agg d.cells.toArray)).run prog w = .ok (.bool (c=d)) w:=by
 rw[←VN]; exact aag ..
abbrev kZ (w:World)(v:Value)(l:List UInt8):Prop:=aN 1 (fun n:UInt8=>[dQ n]) w v l
theorem Ej{w:World}{p:dA} :
  Calls prog 148 #[.agg p.cells.toArray] w fun e w'=>∃v,e = .returned v∧OwnB w.heap.size w' v (Px.pb p)∧Ext w w':=by
 skip;refine ahO func148 ntmps148 fun ac S=>ahK fun _ aY=>ahL S 1 p.cells fun ac u b2 E3 hb4 S=>adr S 1 [] [(2,.sn)] fun S=>ahJ<|aY _ _<|ahK fun _ dw=>adr S 8 [.mem 0 0,.mem 0 1,.mem 0 2,.mem 0 3] [(4,.u (p.r.toNat:Int)),(6,.u (p.g.toNat:Int)),(8,.u (p.b.toNat:Int)),(10,.u (p.a.toNat:Int))] (fun S=>?_);have R:=ai2 S;refine Sx.newRow S R 11 4 5 1 p.cells fun ac u v6 E7 X8 R S=>adr S 1 [] [(2,v6)] fun S=>ahJ<|dw _ _<|ahM S results148 ?_;exact⟨_,rfl,R.own _ aiB,S.E⟩
theorem KP{w:World}{v:Value}{L:List dA}(h:adP w v L)(hn:L.length≤1000000) :
  Calls prog 146 #[v] w fun e w'=>∃v',e = .returned v'∧OwnB w.heap.size w' v' (Px.enc L)∧Ext w w':=by
 obtain⟨a,cap,rfl⟩:=h.shape;refine ahO func146 ntmps146 fun ac S=>ahK fun _ aY=>adr S 1 [] [(2,.sn)] fun S=>ahJ<|aY _ _<|ahK fun _ fA=>adr S 1 [] [(3,.sn)] fun S=>ahJ<|fA _ _<|ah2 fun _ jw=>ahK fun _ nT=>adr S 1 [] [(4,.i 0)] fun S=>ahJ<|nT _ _<|ah5 ?_;have R:=ai2 S;have R:=Jy R;refine aiM (ι:=Nat×Value×List (Nat×dA)) (fun p a' w'=>(Px.xw L p.1 p.2.2)∧Sx.Rw w w' [] [⟨5,1,p.2.1,(Px.rb p.2.2).length,(Px.rb p.2.2).map dQ⟩]∧Sx.St w a' w' 44 [(0,.slice a L.length cap),(2,.sn),(3,p.2.1),(4,.i p.1)] [] []) (fun p=>L.length-p.1) (0,(.sn),[]) ⟨Px.xw.zero L,R,S.sn⟩ ?_;rintro⟨i,v,Rn⟩ ac u hI;try dsimp only at hI
 obtain⟨hR,R,S⟩:=hI;have hE:=hR;refine ah2 fun _ dw=>ahK fun _ iT=>adr S 4 [] [(9,.bool ((i:Int)<(L.length:Int)))] fun S=>ahJ (iT _ _ ?_);refine ahN S (fun vT=>?_) (fun vT=>?_)
 ·refine ah4<|dw _ _<|ah5<|ahK (fun _ dR=>?_);have hi:i<L.length:=by have:=ain vT; omega
  obtain⟨x,hx⟩:∃z,L[i]=z:=⟨_,rfl⟩;refine adr S 2 [] [(5,.i i)] fun S=>ahJ<|dR _ _<|ah2 (fun κq iD=>?_);have J10:∀(k:Nat) (ac:Act) (u:World),(Sx.Rw w u [] [⟨5,1,v,(Px.rb Rn).length,(Px.rb Rn).map dQ⟩])→(k≤L.length)→(i≤k)→(∀(j:Nat) (hj:j<L.length),i≤j→j<k→L[j]=x)→(∀h:k<L.length,L[k]≠x)→Sx.St w ac u 44 [(0,.slice a L.length cap),(2,.sn),(3,v),(4,.i i),(5,.i k)] [] []→κq ac u:=by
   intro k ac u R hkl hik hall hend S;refine iD _ _<|ahK (fun _ dO=>?_);have hlt:i<k:=by rcases aiP i k with h | h; exact h; obtain rfl:k=i:=(by omega); exact absurd hx (hend hi)
   refine adr S 5 [.re 31 (.i (IntKind.i64.wrap ((k:Int)-(i:Int)))) (.i (k-i:Nat)),.re 32 (.int .u64 (IntKind.u64.wrap ((k-i:Nat):Int))) (.int .u64 ((k-i:Nat):Int))] [(28,v),(32,.int .u64 ((k-i:Nat):Int))] (hk:=⟨(Sx.lG (by omega) (by omega)),(wrap_u64 (by omega)),trivial⟩) fun S=>ahQ S (some 33) (eH (k-i) _ (by omega)) ?_;rintro e u ⟨v33,rfl,af4,yw⟩;refine⟨_,rfl,yw,fun ac S=>?_⟩;have hrb:=Px.abI hE.good;rw[hE.flat,ake]at hrb;have hu9:(En.fE 10 (k-i)).length≤10:=En.jk 10 _;obtain⟨R,Y13⟩:=R.bZ S (ait yw);refine Sx.app S R 0 34 rfl pY (jh (af4)) (by show(Px.rb Rn).length+(En.fE 10 (k-i)).length≤9223372036854775807; omega) (by show((Px.rb Rn).length+(En.fE 10 (k-i)).length)*1≤140737488355328; omega) fun ac u v14 X15 R S=>adr S 1 [] [(3,v14)] fun S=>ahJ<|dO _ _<|ahK (fun _ jQ=>?_);have adQ:i<L.length:=by omega
   obtain⟨b17,o18,rfl,y23,af5,Yt,af6⟩:=aiy h (fun _=>rfl) (i) adQ;have S:=S.view0 Yt af6;refine adr S 5 [.idx i L.length,.mem 0 0] [(35,v14),(39,.agg y23.cells.toArray)] (hk:=⟨adQ,trivial⟩) fun S=>ahQ S (some 40) (Ej (p:=y23)) ?_;rintro e u ⟨v40,rfl,adR,LC⟩;rw[show y23=x from by rw[←af5]; exact hx]at adR;refine⟨_,rfl,LC,fun ac S=>?_⟩;obtain⟨R,Y26⟩:=R.bZ S (ait LC);refine Sx.app S R 0 41 rfl pY (jh (adR)) (by show(Px.rb Rn).length+(En.fE 10 (k-i)).length+4≤9223372036854775807; omega) (by show((Px.rb Rn).length+(En.fE 10 (k-i)).length+4)*1≤140737488355328; omega) fun ac u v27 X28 R S=>adr S 1 [] [(3,v27)] fun S=>ahJ<|jQ _ _<|aia<|adr S 2 [] [(4,.i k)] fun S=>ahJ ?_;show ∃i',_∧_;exact⟨(k,v27,(Rn++[(k-i,x)])),⟨hE.step hi hx hlt hkl hall hend,R.as (show [(⟨5,1,v27,(Px.rb Rn).length+(En.fE 10 (k-i)).length+4,(Px.rb Rn).map dQ++(En.fE 10 (k-i)).map dQ++(Px.pb x).map dQ⟩:Sx.Row)]=[⟨5,1,v27,(Px.rb (Rn++[(k-i,x)])).length,(Px.rb (Rn++[(k-i,x)])).map dQ⟩] by rw[Px.YR]; simp[Px.pb,Nat.add_assoc]),S.sn⟩,by show _-_<_-_; omega⟩
  refine ah5 ?_;refine aiM (ι:=Nat) (fun p a' w'=>((i≤p∧p≤L.length)∧∀(j:Nat) (hj:j<L.length),i≤j→j<p→L[j]=x)∧Sx.Rw w w' [] [⟨5,1,v,(Px.rb Rn).length,(Px.rb Rn).map dQ⟩]∧Sx.St w a' w' 44 [(0,.slice a L.length cap),(2,.sn),(3,v),(4,.i i),(5,.i p)] [] []) (fun p=>L.length-p) (i) ⟨⟨⟨ah9 _,by omega⟩,fun j hj h1 h2=>by omega⟩,R,S.sn⟩ ?_;rintro k ac u hI;try dsimp only at hI
  obtain⟨hR,R,S⟩:=hI;have hrk:=hR.1;refine ah2 fun _ uJ=>ah2 (fun _ oJ=>?_);by_cases af7:k<L.length
  ·have adS:k<L.length:=by omega
   obtain⟨b33,o34,rfl,y39,adT,adf,af8⟩:=aiy h (fun _=>rfl) (k) adS;have S:=S.view0 adf af8;have adU:i<L.length:=by omega
   obtain⟨y47,adV,hb48,af9⟩:=Vp.aga h (fun _=>rfl) (i) adU;have S:=S.view0 hb48 af9;refine ahW S 15 [.re 14 (.bool ((k:Int)<(L.length:Int))) (.bool true),.idx k L.length,.mem 1 0,.idx i L.length,.mem 0 0,.cmp .eql 192 (.tmp 19) (.tmp 23) (.agg #[.u (y39.r.toNat:Int),.u (y39.g.toNat:Int),.u (y39.b.toNat:Int),.u (y39.a.toNat:Int)]) (.agg #[.u (y47.r.toNat:Int),.u (y47.g.toNat:Int),.u (y47.b.toNat:Int),.u (y47.a.toNat:Int)]) (.bool (y39=y47))] [] [(25,.bool (y39=y47))] trivial (hk:=⟨(aic Value.bool (ajd (by omega))),adS,adU,(Sx.fQ (fun _=>abS y39 y47 _) (by kernel_rfl)),trivial⟩) fun ac u E32 S=>ahJ (oJ _ _ ?_);refine ahN S (fun abT=>?_) (fun abT=>?_)
   ·refine ah4<|uJ _ _<|ah5<|aia<|adr S 3 [.re 27 (.i (IntKind.i64.wrap ((k:Int)+1))) (.i (k+1:Nat))] [(5,.i (k+1:Nat))] (hk:=⟨ahY (by omega),trivial⟩) fun S=>ahJ ?_;obtain⟨R,Y50⟩:=R.bZ S (ait E32);show ∃i',_∧_;exact⟨(k+1),⟨⟨⟨by omega,by omega⟩,fun j hj h1 h2=>by
     by_cases e:j=k
     ·subst e; have:=abT; rw[adT]; rw[←hx,adV]; simpa using this
     exact hR.2 j hj h1 (by omega)⟩,R,S.sn⟩,by show _-_<_-_; omega⟩
   refine ail ?_;obtain⟨R,Y51⟩:=R.bZ S (ait E32);exact J10 k _ _ R hR.1.2 hR.1.1 hR.2 (fun h e=>by rw[adT]at e; subst e; have:=abT; rw[←hx,adV]at this; simp at this) S.sn
  refine ahW S 15 [.re 14 (.bool ((k:Int)<(L.length:Int))) (.z),.dead 16 (.z),.dead 17 (.z),.dead 18 (.z),.dead 19 (.z),.dead 20 (.z),.dead 21 (.z),.dead 22 (.z),.dead 23 (.z),.dead 24 (.z)] [] [(25,.z)] trivial (hk:=⟨(aic Value.bool (ajx (by omega))),trivial⟩) fun ac u E52 S=>ahJ<|oJ _ _<|ahX S<|ail ?_;obtain⟨R,Y53⟩:=R.bZ S (ait E52);exact J10 k _ _ R hR.1.2 hR.1.1 hR.2 (fun h=>absurd h af7) S.sn
 refine ail<|jw _ _<|ahK fun _ EY=>adr S 2 [] [(2,v)] fun S=>ahJ<|EY _ _<|ahM S results146 ?_;exact⟨_,rfl,by rw[←hE.done (by have:=aiu vT; omega)]; exact R.own _ aiB,S.E⟩
end
section
set_option maxHeartbeats 1600000
set_option maxRecDepth 100000
open Go.RowKit
variable{α:Type}{K:Nat}
def tkP(l:List UInt8)(p:Nat)(bad:Bool)(n:Nat):Nat:=if (bad||decide (l.length<p+n))=true then p else p+n
def Rk(l:List UInt8)(p:Nat)(bad:Bool)(n:Nat):Bool:=bad||decide (l.length<p+n)
def XJ(l:List UInt8)(p:Nat)(bad:Bool)(n:Nat):List UInt8:=if (bad||decide (l.length<p+n))=true then List.replicate n 0 else (l.drop p).take n
theorem MG{l:List UInt8}{p n:Nat}{bad:Bool}(h:Rk l p bad n=true):tkP l p bad n=p∧XJ l p bad n=List.replicate n 0:=by
 unfold Rk at h; unfold tkP XJ; rw[aib h,aib h]; exact⟨rfl,rfl⟩
theorem VT{l:List UInt8}{p n:Nat}{bad:Bool}(h:Rk l p bad n=false):bad=false∧p+n≤l.length∧tkP l p bad n=p+n∧XJ l p bad n=(l.drop p).take n:=by
 unfold Rk at h; unfold tkP XJ; rw[h];simp only[aiX,aji]at h;exact⟨h.1,by omega,by simp,by simp⟩
theorem Y1{l:List UInt8}{p n:Nat}{bad:Bool}:(XJ l p bad n).length=n:=by
 cases h:Rk l p bad n
 ·obtain⟨-,h1,-,h2⟩:=VT h; rw[h2]; simp; omega
 rw[(MG h).2]; simp
theorem Y2{l:List UInt8}{p:Nat}{bad:Bool}:∃q:dA,XJ l p bad 4=Px.pb q:=by
 have h:=@Y1 l p 4 bad;match h1:XJ l p bad 4,h with
 | [a,b,c,d],_=>exact⟨⟨a,b,c,d⟩,rfl⟩
theorem lX{b b2:Nat}{w u u':World}(h:Ch b w u)(c:Ch b2 u u')(hb:b2=b∨w.heap.size≤b2):Ch b w u':=by
 rcases hb with rfl | hb
 ·exact h.trans c
 exact⟨c.os.trans h.os,c.tape.trans h.tape,c.output.trans h.output,aiQ h.size c.size,fun i hi hn=>(c.block i (aiG hi h.size) (fun e=>by simp only[ah8]at e; omega)).trans (h.block i hi hn)⟩
theorem VU{w:World}{a:Option Addr}{l:List UInt8}{c p n:Nat}(h:kZ w (.slice a l.length c) l)(hp:p+n≤l.length)(hn:0<n):l.length≤c∧∃bk o,a=some ⟨bk,o,none⟩∧bk<w.heap.size∧w.rangeAt bk (o+p) (((l.drop p).take n).map dQ):=by
 obtain⟨a',cap,hv,hm,hh⟩:=h;simp only[aiK,true_and]at hv;obtain⟨rfl,rfl⟩:=hv;rcases hh with ⟨rfl,-⟩ | ⟨bk,o,rfl,hb,hl,hc⟩
 ·simp only[ai8]at hp; omega
 refine⟨hl,bk,o,rfl,hb,fun j v hj=>?_⟩;have hjn:j<n:=by
  have:=(List.getElem?_eq_some_iff.1 hj).1;simp only[ajU,ake,List.length_drop]at this; omega
 have h1:=hc (p+j) (by omega) 0 (by omega);rw[List.getElem?_map,List.getElem?_take_of_lt hjn,List.getElem?_drop,List.getElem?_eq_getElem (by omega)]at hj;obtain rfl:=aik hj;rw[show o+p+j=o+(p+j)*1+0 by omega,h1]; rfl
theorem VW{w0:World}{a:Option Addr}{l:List UInt8}{c p:Nat}(h:kZ w0 (.slice a l.length c) l)(hp:p+4≤l.length) :
  ∃bk o,(.slice (Sx.OG a p c 1) (p+4-p) (c-p):Value) = .slice (some ⟨bk,o,none⟩) 4 (c-p)∧bk<w0.heap.size∧w0.rangeAt bk o (((l.drop p).take 4).map dQ):=by
 obtain⟨hl,bk,o,rfl,hb,hr⟩:=VU h hp (by omega);refine⟨bk,o+p*1,?_,hb,by rw[Nat.mul_one]; exact hr⟩;unfold Sx.OG;rw[ah7 (by omega),Nat.add_sub_cancel_left]; simp[Addr.add]
theorem Rl{w0 w:World}{b p cap:Nat}{a:Option Addr}{bad pk:Bool}{l:List UInt8}(hE:Ext w0 w)(hx:Bx w b #[.slice a l.length cap,.i p,.bool bad,.bool pk])(hb:w0.heap.size≤b)(h:kZ w0 (.slice a l.length cap) l)(hp:p≤l.length) :
  Calls prog 104 #[.q b 0,.i 4] w fun e w'=>∃bk o c,e = .returned (.slice (some ⟨bk,o,none⟩) 4 c)∧w'.rangeAt bk o ((XJ l p bad 4).map dQ)∧bk<w'.heap.size∧(bk<w0.heap.size∨w.heap.size≤bk)∧Ext w0 w'∧Ch b w w'∧Bx w' b #[.slice a l.length cap,.i (tkP l p bad 4:Nat),.bool (Rk l p bad 4),.bool pk]:=by
 have hml:l.length≤9223372036854775807:=h.len;refine Sx.vJ func104 ntmps104 hE hx hb fun ac S=>ahK fun _ aY=>adr S 1 [] [(4,.sn)] fun S=>ahJ<|aY _ _<|ah2 fun _ fA=>ah2 fun _ jw=>ahW S 22 [.mem 0 2,.mem 0 0,.mem 0 1,.re 24 (.i (IntKind.i64.wrap ((l.length:Int)-(p:Int)))) (.i (l.length-p:Nat))] [] [(26,.bool ((bad||false)||(decide (((l.length-p:Nat):Int)<4))))] trivial (hk:=⟨(Sx.lG (by omega) (by omega)),trivial⟩) fun ac u E4 S=>ahJ (jw _ _ ?_);refine ahN S (fun hc5=>?_) (fun hc5=>?_)
 ·refine ahK fun _ iT=>adr S 3 [] [(29,.q b 2)] fun S=>ah3 S 0 (off:=2) (v := .bool true) rfl (fun u C7 S=>?_);have Fs8:=(lX ((Ch.trans (Ch.refl b w) (Ch.iE E4))) C7 (by first | exact .inl rfl | exact .inr (by omega)));refine ahJ<|iT _ _<|ahK (fun _ iD=>?_);have hws:=(Fs8).size;refine adr S 3 [] [(32,.i 4)] fun S=>ah6 S 33 4 [.u 0,.u 0,.u 0,.u 0] fun ac u b10 wL PW S=>adr S 1 [] [(4,.slice (some ⟨b10,0,none⟩) 4 4)] fun S=>ahJ<|iD _ _<|aii ?_;have hbad:Rk l p bad 4=true:=by unfold Rk; cases bad; (simp at hc5 ⊢; omega); rfl
  refine ahU S results104 ?_;exact⟨_,_,_,rfl,by rw[(MG hbad).2]; exact(S.bx 0).range 0 4 rfl,(S.bx 0).1,.inr (by have:=PW; omega),S.E,((Ch.trans Fs8 (Ch.iE wL))),by rw[(MG hbad).1,hbad]; exact S.bx 1⟩
 have hok:Rk l p bad 4=false:=by unfold Rk; cases bad; (simp at hc5 ⊢; omega); simp at hc5
 have hlen:=(VT hok).2.1;have hcap:=Sx.Jr h;refine ah4<|fA _ _<|ahK fun _ iI=>adr S 8 [.mem 0 1,.re 39 (.i (IntKind.i64.wrap ((p:Int)+4))) (.i (p+4:Nat))] [(39,.i (p+4:Nat)),(41,.q b 1)] (hk:=⟨(Sx.lG (by omega) (by omega)),trivial⟩) fun S=>ah3 S 0 (off:=1) (v := .i (p+4:Nat)) rfl (fun u C14 S=>?_);have FW:=(lX ((Ch.trans (Ch.refl b w) (Ch.iE E4))) C14 (by first | exact .inl rfl | exact .inr (by omega)));refine ahJ<|iI _ _<|ah2 fun _ jQ=>ahW S 15 [.mem 0 0,.mem 0 1,.re 51 (.i (IntKind.i64.wrap (((p+4:Nat):Int)-4))) (.i p),.mem 0 1,.slc p (p+4) cap cap] [] [(56,.slice (Sx.OG a p cap 1) (p+4-p) (cap-p))] trivial (hk:=⟨(Sx.lG (by omega) (by omega)),(by omega),trivial⟩) fun ac u yu S=>adr S 1 [] [(4,.slice (Sx.OG a p cap 1) (p+4-p) (cap-p))] fun S=>ahJ<|jQ _ _<|aii ?_;obtain⟨bk,o,hv,hk1,hr⟩:=VW h hlen;have ho:=VT hok;refine ahU S results104 ?_;exact⟨bk,o,cap-p,aic Ending.returned hv,by rw[ho.2.2.2]; exact Vp.qh hr hk1 S.E,aiG hk1 S.E.size,.inl hk1,S.E,((Ch.trans FW (Ch.iE yu))),by rw[ho.2.2.1,hok]; have:=S.bx 0; rw[ho.1]at this; exact this⟩
theorem Jz{w0 w:World}{b p cap:Nat}{a:Option Addr}{bad pk:Bool}{l:List UInt8}(hE:Ext w0 w)(hx:Bx w b #[.slice a l.length cap,.i p,.bool bad,.bool pk])(hb:w0.heap.size≤b)(h:kZ w0 (.slice a l.length cap) l)(hp:p≤l.length) :
  Calls prog 51 #[.q b 0] w fun e w'=>∃q:dA,e = .returned (.agg q.cells.toArray)∧Px.pb q=XJ l p bad 4∧Ext w0 w'∧Ch b w w'∧Bx w' b #[.slice a l.length cap,.i (tkP l p bad 4:Nat),.bool (Rk l p bad 4),.bool pk]:=by
 skip;refine Sx.vJ func51 ntmps51 hE hx hb fun ac S=>ahK fun _ aY=>ahL S 2 [.u 0,.u 0,.u 0,.u 0] fun ac u b2 E3 hb4 S=>ahJ<|aY _ _<|ahK fun _ dw=>adr S 1 [] [(4,.q b 0)] (fun S=>?_);have hz0:=S.bx 0;have hz1:=S.bx 1;have hz2:=S.old 0;refine Sx.mW S 1 [.slice a l.length cap,.i (tkP l p bad 4:Nat),.bool (Rk l p bad 4),.bool pk] (some 5) rfl (Rl S.E (S.bx 1) (S.old 1) h hp) ?_;rintro e u ⟨bk,ok,ck,rfl,hr,hlt,hor,hE6,hC6,hX6⟩;refine⟨_,rfl,hE6,hC6,hX6,fun ac S=>?_⟩;have Fs7:=(lX ((Ch.trans (Ch.refl b w) (Ch.iE E3))) hC6 (by first | exact .inl rfl | exact .inr (by omega)));obtain⟨q,hq⟩:=@Y2 l p bad;rw[hq]at hr;have S:=S.view (cs:=q.cells) hlt hr (fun p hp=>by rcases aip.1 hp with rfl | hp; (have:=hz0.1; rcases hor with h | h<;>(intro e; simp only at e; omega)); obtain rfl:=akb.1 hp; (have:=hz1.1; rcases hor with h | h<;>(intro e; simp only at e; omega)));refine adr S 1 [] [(3,.slice (some ⟨bk,ok,none⟩) 4 ck)] fun S=>ahJ<|dw _ _<|ah2 fun _ dR=>ahW S 13 [.idx 0 4,.mem 2 0,.idx 1 4,.mem 2 1,.idx 2 4,.mem 2 2,.idx 3 4,.mem 2 3] [] [(18,.agg q.cells.toArray)] trivial (hk:=⟨(by decide),(by decide),(by decide),(by decide),trivial⟩) fun ac u E9 S=>ahP S 0 (off:=0) (cs:=q.cells) rfl (fun u C10 S=>?_);have UH:=(lX ((Ch.trans Fs7 (Ch.iE E9))) C10 (by first | exact .inl rfl | exact .inr (by omega)));refine ahJ<|dR _ _<|Sx.EZ S 0 results51 rfl (v := .agg q.cells.toArray) ?_;exact⟨q,rfl,hq.symm,S.E,UH,S.bx 1⟩
end
end Go.Proofs.YtapmgonflgahbaaGreatDoor
