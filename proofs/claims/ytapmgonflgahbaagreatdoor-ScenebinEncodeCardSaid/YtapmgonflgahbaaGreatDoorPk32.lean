/- Pixels: reference 46's comparison, the encoder. Pixels: reference 46's encoder. -/
import Derived.Test.YtapmgonflgahbaaGreatDoorPk30
import Derived.Test.YtapmgonflgahbaaGreatDoorEncW1
set_option linter.unusedVariables false
namespace Go.Proofs.YtapmgonflgahbaaGreatDoor
open _root_.Go.Proofs.Tryz
section
set_option maxHeartbeats 3200000
set_option maxRecDepth 100000
open Go.RowKit
variable{α:Type}{K:Nat}
abbrev adF (w:World)(v:Value)(L:List bT):Prop:=aV 4 bT.cells w v L
theorem Pv{w0 w:World}{bl:List (Nat×List Value)}(R:Sx.Rw w0 w bl []):Sx.Rw w0 w bl [⟨5,1,.sn,0,[]⟩]:=
 ⟨fun r hr=>by obtain rfl:=ap9.1 hr; exact⟨rfl,.inl ⟨rfl,rfl⟩⟩,R.lt,R.apart⟩
theorem aay(c d:bT)(w:World):(binOp .eql 192 (.agg c.cells.toArray) (.agg d.cells.toArray)).run prog w = .ok (.bool (c=d)) w:=by
 rw[←Lh]; exact ado ..
structure dA where
 a:Option Addr
 c:Nat
 l:List UInt8
def dA.v(p:dA):Value := .slice p.a p.l.length p.c
abbrev mF (w:World)(v:Value)(l:List UInt8):Prop:=aV 1 (fun n:UInt8=>[dY n]) w v l
def U0(w:World)(v:Value)(ps:List dA):Prop:=aV 1 (fun p:dA=>[p.v]) w v ps∧∀p∈ps,mF w p.v p.l
abbrev tH (ps:List dA)(i:Nat):List UInt8:=((ps.take i).map dA.l).flatten
theorem JD{ps:List dA}{i:Nat}{p:dA}(hi:i<ps.length)(hp:ps[i]=p):tH ps (i+1)=tH ps i++p.l:=by
 unfold tH;rw[aoZ hi,hp]; simp
theorem acz{ps:List dA}{i:Nat}:(tH ps i).length≤((ps.map dA.l).flatten).length:=by
 unfold tH;conv=>rhs; rw[←apZ i ps]
 rw[aoL,List.flatten_append,an5]; omega
theorem Ja{w:World}{p:bT} :
  Calls prog 148 #[.agg p.cells.toArray] w fun e w'=>∃v,e = .returned v∧OwnB w.heap.size w' v (Px.pb p)∧Ext w w':=by
 skip;refine anA func148 ntmps148 fun ac S=>anv fun _ aS=>anw S 1 p.cells fun ac u b2 E3 hb4 S=>adr S 1 [] [(2,.sn)] fun S=>anu<|aS _ _<|anv fun _ bM=>adr S 8 [.mem 0 0,.mem 0 1,.mem 0 2,.mem 0 3] [(4,.u (p.r.toNat:Int)),(6,.u (p.g.toNat:Int)),(8,.u (p.b.toNat:Int)),(10,.u (p.a.toNat:Int))] (fun S=>?_);have R:=aoz S;refine anY S R 11 4 5 1 p.cells fun ac u v6 E7 X8 R S=>adr S 1 [] [(2,v6)] fun S=>anu<|bM _ _<|anz S results148 ?_;exact⟨_,rfl,R.own _ aox,S.E⟩
theorem Qy{w:World}{v:Value}{L:List bT}(h:adF w v L)(hn:L.length≤1000000) :
  Calls prog 146 #[v] w fun e w'=>∃v',e = .returned v'∧OwnB w.heap.size w' v' (Px.enc L)∧Ext w w':=by
 obtain⟨a,cap,rfl⟩:=h.shape;refine anA func146 ntmps146 fun ac S=>anv fun _ aS=>adr S 1 [] [(2,.sn)] fun S=>anu<|aS _ _<|anv fun _ eP=>adr S 1 [] [(3,.sn)] fun S=>anu<|eP _ _<|anV fun _ jv=>anv fun _ oq=>adr S 1 [] [(4,.i 0)] fun S=>anu<|oq _ _<|an1 ?_;have R:=aoz S;have R:=Pv R;refine aow (ι:=Nat×Value×List (Nat×bT)) (fun p a' w'=>(Px.xw L p.1 p.2.2)∧Sx.Rw w w' [] [⟨5,1,p.2.1,(Px.rb p.2.2).length,(Px.rb p.2.2).map dY⟩]∧Sx.St w a' w' 44 [(0,.slice a L.length cap),(2,.sn),(3,p.2.1),(4,.i p.1)] [] []) (fun p=>L.length-p.1) (0,(.sn),[]) ⟨Px.xw.zero L,R,S.sn⟩ ?_;rintro⟨i,v,Rn⟩ ac u hI;try dsimp only at hI
 obtain⟨hR,R,S⟩:=hI;have hE:=hR;refine anV fun _ bM=>anv fun _ iL=>adr S 4 [] [(9,.bool ((i:Int)<(L.length:Int)))] fun S=>anu (iL _ _ ?_);refine anx S (fun mG=>?_) (fun mG=>?_)
 ·refine anZ<|bM _ _<|an1<|anv (fun _ eu=>?_);have hi:i<L.length:=by have:=aoe mG; omega
  obtain⟨x,hx⟩:∃z,L[i]=z:=⟨_,rfl⟩;refine adr S 2 [] [(5,.i i)] fun S=>anu<|eu _ _<|anV (fun κq ig=>?_);have J10:∀(k:Nat) (ac:Act) (u:World),(Sx.Rw w u [] [⟨5,1,v,(Px.rb Rn).length,(Px.rb Rn).map dY⟩])→(k≤L.length)→(i≤k)→(∀(j:Nat) (hj:j<L.length),i≤j→j<k→L[j]=x)→(∀h:k<L.length,L[k]≠x)→Sx.St w ac u 44 [(0,.slice a L.length cap),(2,.sn),(3,v),(4,.i i),(5,.i k)] [] []→κq ac u:=by
   intro k ac u R hkl hik hall hend S;refine ig _ _<|anv (fun _ cZ=>?_);have hlt:i<k:=by rcases aoT i k with h | h; exact h; obtain rfl:k=i:=(by omega); exact absurd hx (hend hi)
   refine adr S 5 [.re 31 (.i (IntKind.i64.wrap ((k:Int)-(i:Int)))) (.i (k-i:Nat)),.re 32 (.int .u64 (IntKind.u64.wrap ((k-i:Nat):Int))) (.int .u64 ((k-i:Nat):Int))] [(28,v),(32,.int .u64 ((k-i:Nat):Int))] (hk:=⟨(Sx.zY (by omega) (by omega)),(wrap_u64 (by omega)),trivial⟩) fun S=>anB S (some 33) (gW (k-i) _ (by omega)) ?_;rintro e u ⟨v33,rfl,aaz,wE⟩;refine⟨_,rfl,wE,fun ac S=>?_⟩;have hrb:=Px.Z8 hE.good;rw[hE.flat,ap3]at hrb;have hu9:(En.dP 10 (k-i)).length≤10:=En.iE 10 _;obtain⟨R,Y13⟩:=R.aT S (aoc wE);refine anW S R 0 34 rfl nX (jL (aaz)) (by show(Px.rb Rn).length+(En.dP 10 (k-i)).length≤9223372036854775807; omega) (by show((Px.rb Rn).length+(En.dP 10 (k-i)).length)*1≤140737488355328; omega) fun ac u v14 X15 R S=>adr S 1 [] [(3,v14)] fun S=>anu<|cZ _ _<|anv (fun _ iM=>?_);have Lm:i<L.length:=by omega
   obtain⟨b17,o18,rfl,y23,aaA,QK,ae2⟩:=aom h (fun _=>rfl) (i) Lm;have S:=S.view0 QK ae2;refine adr S 5 [.idx i L.length,.mem 0 0] [(35,v14),(39,.agg y23.cells.toArray)] (hk:=⟨Lm,trivial⟩) fun S=>anB S (some 40) (Ja (p:=y23)) ?_;rintro e u ⟨v40,rfl,aha,Ap⟩;rw[show y23=x from by rw[←aaA]; exact hx]at aha;refine⟨_,rfl,Ap,fun ac S=>?_⟩;obtain⟨R,Y26⟩:=R.aT S (aoc Ap);refine anW S R 0 41 rfl nX (jL (aha)) (by show(Px.rb Rn).length+(En.dP 10 (k-i)).length+4≤9223372036854775807; omega) (by show((Px.rb Rn).length+(En.dP 10 (k-i)).length+4)*1≤140737488355328; omega) fun ac u v27 X28 R S=>adr S 1 [] [(3,v27)] fun S=>anu<|iM _ _<|an3<|adr S 2 [] [(4,.i k)] fun S=>anu ?_;show ∃i',_∧_;exact⟨(k,v27,(Rn++[(k-i,x)])),⟨hE.step hi hx hlt hkl hall hend,R.as (show [(⟨5,1,v27,(Px.rb Rn).length+(En.dP 10 (k-i)).length+4,(Px.rb Rn).map dY++(En.dP 10 (k-i)).map dY++(Px.pb x).map dY⟩:Sx.Row)]=[⟨5,1,v27,(Px.rb (Rn++[(k-i,x)])).length,(Px.rb (Rn++[(k-i,x)])).map dY⟩] by rw[Px.UJ]; simp[Px.pb,Nat.add_assoc]),S.sn⟩,by show _-_<_-_; omega⟩
  refine an1 ?_;refine aow (ι:=Nat) (fun p a' w'=>((i≤p∧p≤L.length)∧∀(j:Nat) (hj:j<L.length),i≤j→j<p→L[j]=x)∧Sx.Rw w w' [] [⟨5,1,v,(Px.rb Rn).length,(Px.rb Rn).map dY⟩]∧Sx.St w a' w' 44 [(0,.slice a L.length cap),(2,.sn),(3,v),(4,.i i),(5,.i p)] [] []) (fun p=>L.length-p) (i) ⟨⟨⟨an7 _,by omega⟩,fun j hj h1 h2=>by omega⟩,R,S.sn⟩ ?_;rintro k ac u hI;try dsimp only at hI
  obtain⟨hR,R,S⟩:=hI;have hrk:=hR.1;refine anV fun _ oP=>anV (fun _ mM=>?_);by_cases ajN:k<L.length
  ·have ahb:k<L.length:=by omega
   obtain⟨b33,o34,rfl,y39,ahc,WO,ajO⟩:=aom h (fun _=>rfl) (k) ahb;have S:=S.view0 WO ajO;have ahd:i<L.length:=by omega
   obtain⟨y47,ahe,hb48,ajP⟩:=Vp.Xl h (fun _=>rfl) (i) ahd;have S:=S.view0 hb48 ajP;refine anI S 15 [.re 14 (.bool ((k:Int)<(L.length:Int))) (.bool true),.idx k L.length,.mem 1 0,.idx i L.length,.mem 0 0,.cmp .eql 192 (.tmp 19) (.tmp 23) (.agg #[.u (y39.r.toNat:Int),.u (y39.g.toNat:Int),.u (y39.b.toNat:Int),.u (y39.a.toNat:Int)]) (.agg #[.u (y47.r.toNat:Int),.u (y47.g.toNat:Int),.u (y47.b.toNat:Int),.u (y47.a.toNat:Int)]) (.bool (y39=y47))] [] [(25,.bool (y39=y47))] trivial (hk:=⟨(an9 Value.bool (aoX (by omega))),ahb,ahd,(anN (fun _=>aay y39 y47 _) (by kernel_rfl)),trivial⟩) fun ac u E32 S=>anu (mM _ _ ?_);refine anx S (fun ae3=>?_) (fun ae3=>?_)
   ·refine anZ<|oP _ _<|an1<|an3<|adr S 3 [.re 27 (.i (IntKind.i64.wrap ((k:Int)+1))) (.i (k+1:Nat))] [(5,.i (k+1:Nat))] (hk:=⟨anJ (by omega),trivial⟩) fun S=>anu ?_;obtain⟨R,Y50⟩:=R.aT S (aoc E32);show ∃i',_∧_;exact⟨(k+1),⟨⟨⟨by omega,by omega⟩,fun j hj h1 h2=>by
     by_cases e:j=k
     ·subst e; have:=ae3; rw[ahc]; rw[←hx,ahe]; simpa using this
     exact hR.2 j hj h1 (by omega)⟩,R,S.sn⟩,by show _-_<_-_; omega⟩
   refine aod ?_;obtain⟨R,Y51⟩:=R.aT S (aoc E32);exact J10 k _ _ R hR.1.2 hR.1.1 hR.2 (fun h e=>by rw[ahc]at e; subst e; have:=ae3; rw[←hx,ahe]at this; simp at this) S.sn
  refine anI S 15 [.re 14 (.bool ((k:Int)<(L.length:Int))) (.z),.dead 16 (.z),.dead 17 (.z),.dead 18 (.z),.dead 19 (.z),.dead 20 (.z),.dead 21 (.z),.dead 22 (.z),.dead 23 (.z),.dead 24 (.z)] [] [(25,.z)] trivial (hk:=⟨(an9 Value.bool (apa (by omega))),trivial⟩) fun ac u E52 S=>anu<|mM _ _<|anM S<|aod ?_;obtain⟨R,Y53⟩:=R.aT S (aoc E52);exact J10 k _ _ R hR.1.2 hR.1.1 hR.2 (fun h=>absurd h ajN) S.sn
 refine aod<|jv _ _<|anv fun _ Ei=>adr S 2 [] [(2,v)] fun S=>anu<|Ei _ _<|anz S results146 ?_;exact⟨_,rfl,by rw[←hE.done (by have:=aoi mG; omega)]; exact R.own _ aox,S.E⟩
theorem uS{w:World}{n:Nat}(hn:n≤9223372036854775807) :
  Calls prog 41 #[.i n] w fun e w'=>∃v,e = .returned v∧OwnB w.heap.size w' v (En.dP 10 n)∧Ext w w':=by
 skip;refine anA func41 ntmps41 fun ac S=>anv fun _ aS=>adr S 1 [] [(2,.sn)] fun S=>anu<|aS _ _<|anv fun _ eP=>adr S 2 [.re 4 (.int .u64 (IntKind.u64.wrap (n:Int))) (.int .u64 (n:Int))] [(4,.int .u64 (n:Int))] (hk:=⟨(wrap_u64 (by omega)),trivial⟩) fun S=>anB S (some 5) (oz n _ (by omega)) ?_;rintro e u ⟨v5,rfl,ho5,E3⟩;refine⟨_,rfl,E3,fun ac S=>?_⟩;refine adr S 1 [] [(2,v5)] fun S=>anu<|eP _ _<|anz S results41 ?_;exact⟨_,rfl,ho5,S.E⟩
theorem U1{w:World}{v:Value}{ps:List dA}(h:U0 w v ps)(hn:((ps.map dA.l).flatten).length≤100000000) :
  Calls prog 42 #[v] w fun e w'=>∃v',e = .returned v'∧OwnB w.heap.size w' v' ((ps.map dA.l).flatten)∧Ext w w':=by
 obtain⟨a,cap,rfl⟩:=h.1.shape;have hmax:ps.length≤9223372036854775807:=h.1.len;refine anA func42 ntmps42 fun ac S=>anv fun _ aS=>adr S 1 [] [(2,.sn)] fun S=>anu<|aS _ _<|anv (fun _ eP=>?_);have R:=aoz S;refine anY S R 6 0 5 1 [] fun ac u v3 E4 X5 R S=>adr S 1 [] [(3,v3)] fun S=>anu<|eP _ _<|anV fun _ iL=>anv fun _ iZ=>adr S 1 [] [(4,.i 0)] fun S=>anu<|iZ _ _<|an1 ?_;refine aow (ι:=Nat×Value) (fun p a' w'=>(p.1≤ps.length)∧Sx.Rw w w' [] [⟨5,1,p.2,(tH ps p.1).length,(tH ps p.1).map dY⟩]∧Sx.St w a' w' 33 [(0,.slice a ps.length cap),(2,.sn),(3,p.2),(4,.i p.1)] [] []) (fun p=>ps.length-p.1) (0,v3) ⟨aoa _,R,S.sn⟩ ?_;rintro⟨i,v⟩ ac u hI;try dsimp only at hI
 obtain⟨hR,R,S⟩:=hI;refine anV fun _ eu=>anv fun _ ig=>adr S 4 [] [(10,.bool ((i:Int)<(ps.length:Int)))] fun S=>anu (ig _ _ ?_);refine anx S (fun dn=>?_) (fun dn=>?_)
 ·refine anZ<|eu _ _<|anV fun _ cZ=>an1<|anv fun _ dW=>adr S 1 [] [(5,.i 0)] fun S=>anu<|dW _ _<|an1 ?_;have hi:i<ps.length:=by have:=aoe dn; omega
  obtain⟨p,hp⟩:∃z,ps[i]=z:=⟨_,rfl⟩;obtain⟨pa,pc,pl⟩:=p;have hnd:mF w (.slice pa pl.length pc) pl:=h.2 ⟨pa,pc,pl⟩ (hp▸aot hi);refine aow (ι:=Nat×Value) (fun p a' w'=>(p.1≤pl.length)∧Sx.Rw w w' [] [⟨5,1,p.2,(tH ps i++pl.take p.1).length,(tH ps i++pl.take p.1).map dY⟩]∧Sx.St w a' w' 33 [(0,.slice a ps.length cap),(2,.sn),(3,p.2),(4,.i i),(5,.i p.1)] [] []) (fun p=>pl.length-p.1) (0,v) ⟨aoa _,R.as (show [(⟨5,1,v,(tH ps i).length,(tH ps i).map dY⟩:Sx.Row)]=[⟨5,1,v,(tH ps i++pl.take 0).length,(tH ps i++pl.take 0).map dY⟩] by rw[List.take_zero,ao6]),S.sn⟩ ?_;rintro⟨k,v2⟩ ac u hI;try dsimp only at hI
  obtain⟨hR,R,S⟩:=hI;refine anV fun _ iH=>anv (fun _ fP=>?_);have rY:i<ps.length:=hi;obtain⟨b15,o16,rfl,p21,CP,Kq,ES⟩:=aom h.1 (fun _=>rfl) (i) rY;obtain rfl:p21=⟨pa,pc,pl⟩:=by rw[←CP]; exact hp
  have S:=S.view0 Kq ES;refine adr S 7 [.idx i ps.length,.mem 0 0] [(19,.bool ((k:Int)<(pl.length:Int)))] (hk:=⟨rY,trivial⟩) fun S=>anu (fP _ _ ?_);refine anx S (fun pF=>?_) (fun pF=>?_)
  ·refine anZ<|iH _ _<|anV fun _ jY=>an1 ?_;have hck:=aoe pF;refine an3 ?_;have oh:k<pl.length:=by have:=aoe pF; omega
   obtain⟨b25,o26,rfl,c31,hx29,A8,SC⟩:=aom hnd (fun _=>rfl) (k) oh;have S:=S.view0 A8 SC;refine adr S 8 [.idx i ps.length,.mem 1 0,.idx k pl.length,.mem 0 0] [(22,v2),(29,dY c31)] (hk:=⟨rY,oh,trivial⟩) fun S=>anP S 30 1 [dY c31] (fun ac u b33 MV Qv S=>?_);have hal:=acz (ps:=ps) (i:=i+1);rw[JD hi hp,an5]at hal;have hal2:(tH ps i).length+pl.length≤((ps.map dA.l).flatten).length:=hal;have hxl:(tH ps i++pl.take k).length≤100000000:=by rw[an5,ap3]; omega
   obtain⟨R,Y36⟩:=R.aT S (aoG MV Qv);refine anW S R 0 31 rfl nX (Sx.lC (m:=1) (k:=1) (A:=[dY c31]) (S.bx 0)) (by show(tH ps i++pl.take k).length+1≤9223372036854775807; omega) (by show((tH ps i++pl.take k).length+1)*1≤140737488355328; omega) fun ac u v37 X38 R S=>adr S 1 [] [(3,v37)] fun S=>anu<|jY _ _<|an3<|adr S 3 [.re 21 (.i (IntKind.i64.wrap ((k:Int)+1))) (.i (k+1:Nat))] [(5,.i (k+1:Nat))] (hk:=⟨anJ (by omega),trivial⟩) fun S=>anu ?_;have S:=S.gq 1;obtain⟨R,Y39⟩:=R.aT S (aoD 1);show ∃i',_∧_;exact⟨((k+1),v37),⟨by have:=aoe pF; omega,R.as (show [(⟨5,1,v37,(tH ps i++pl.take k).length+1,(tH ps i++pl.take k).map dY++[dY c31]⟩:Sx.Row)]=[⟨5,1,v37,(tH ps i++pl.take (k+1)).length,(tH ps i++pl.take (k+1)).map dY⟩] by rw[aoZ oh,hx29]; simp[Nat.add_assoc]),S.sn⟩,by show _-_<_-_; omega⟩
  refine aod<|cZ _ _<|an3<|adr S 3 [.re 12 (.i (IntKind.i64.wrap ((i:Int)+1))) (.i (i+1:Nat))] [(4,.i (i+1:Nat))] (hk:=⟨anJ (by omega),trivial⟩) fun S=>anu ?_;show ∃i',_∧_;have hkk:k=pl.length:=by have:=aoi pF; omega
  exact⟨((i+1),v2),⟨by omega,R.as (by rw[hkk,aoQ,←JD hi hp]),S.sn⟩,by show _-_<_-_; omega⟩
 refine aod<|iL _ _<|anv fun _ wY=>adr S 2 [] [(2,v)] fun S=>anu<|wY _ _<|an2 ?_;have hii:ps.length≤i:=by have:=aoi dn; omega
 refine anD S results42 ?_;exact⟨_,rfl,by have:=R.own _ aox; unfold tH at this; rw[aou hii]at this; exact this,S.E⟩
end
section
open Go.RowKit
variable{α:Type}{K:Nat}
theorem ae4{w:World}{b:Nat}{p q r:dA}(hx:Bx w b #[p.v,q.v,r.v])(h1:mF w p.v p.l)(h2:mF w q.v q.l)(h3:mF w r.v r.l):U0 w (.slice (some ⟨b,0,none⟩) 3 3) [p,q,r]:=
 ⟨Sx.iO (f:=dA.v) [p,q,r] hx (by simp[maxLen]),fun z hz=>by
  rcases aon.1 hz with rfl | hz
  ·exact h1
  rcases aon.1 hz with rfl | hz
  ·exact h2
  rcases aon.1 hz with rfl | hz
  ·exact h3
  cases hz⟩
set_option maxRecDepth 100000 in
set_option maxHeartbeats 3200000 in
theorem Lp{w:World}{v:Value}{L:List bT}(h:adF w v L)(hn:L.length≤500000) :
  Calls prog 163 #[v] w fun e w'=>∃v',e = .returned v'∧OwnB w.heap.size w' v' (Px.enc L)∧Ext w w':=by
 obtain⟨a,cap,rfl⟩:=h.shape;refine anA func163 ntmps163 fun ac S=>anv fun _ aS=>adr S 1 [] [(2,.sn)] fun S=>anu<|aS _ _<|anv (fun _ eP=>?_);have R:=aoz S;refine anY S R 6 0 5 1 [] fun ac u v3 E4 X5 R S=>adr S 1 [] [(3,v3)] fun S=>anu<|eP _ _<|anV fun _ iL=>anv fun _ iZ=>adr S 1 [] [(4,.i 0)] fun S=>anu<|iZ _ _<|an1 ?_;refine aow (ι:=Nat×Value×List (Nat×bT)) (fun p a' w'=>(Px.xw L p.1 p.2.2)∧Sx.Rw w w' [] [⟨5,1,p.2.1,(Px.rb p.2.2).length,(Px.rb p.2.2).map dY⟩]∧Sx.St w a' w' 59 [(0,.slice a L.length cap),(2,.sn),(3,p.2.1),(4,.i p.1)] [] []) (fun p=>L.length-p.1) (0,v3,[]) ⟨Px.xw.zero L,R,S.sn⟩ ?_;rintro⟨i,v,Rn⟩ ac u hI;try dsimp only at hI
 obtain⟨hR,R,S⟩:=hI;have hE:=hR;obtain⟨va,vc,rfl⟩:=Sx.Cm (show OwnB w.heap.size u v (Px.rb Rn)from R.own _ aox);refine anV fun _ eu=>anv fun _ ig=>adr S 4 [] [(10,.bool ((i:Int)<(L.length:Int)))] fun S=>anu (ig _ _ ?_);refine anx S (fun dn=>?_) (fun dn=>?_)
 ·refine anZ<|eu _ _<|an1<|anv (fun _ cZ=>?_);have hi:i<L.length:=by have:=aoe dn; omega
  obtain⟨px,hx⟩:∃z,L[i]=z:=⟨_,rfl⟩;refine adr S 2 [] [(5,.i i)] fun S=>anu<|cZ _ _<|anV (fun κq dW=>?_);have J13:∀(k:Nat) (ac:Act) (u:World),(Sx.Rw w u [] [⟨5,1,.slice va (Px.rb Rn).length vc,(Px.rb Rn).length,(Px.rb Rn).map dY⟩])→(k≤L.length)→(i≤k)→(∀(j:Nat) (hj:j<L.length),i≤j→j<k→L[j]=px)→(∀h:k<L.length,L[k]≠px)→Sx.St w ac u 59 [(0,.slice a L.length cap),(2,.sn),(3,.slice va ((Px.rb Rn).length) vc),(4,.i i),(5,.i k)] [] []→κq ac u:=by
   intro k ac u R hkl hik hall hend S;refine dW _ _<|anV (fun _ fP=>?_);have hlt:i<k:=by rcases aoT i k with h | h; exact h; obtain rfl:k=i:=(by omega); exact absurd hx (hend hi)
   have yQ:i<L.length:=by omega
   obtain⟨b16,o17,rfl,y22,OD,Ou,aad⟩:=aom h (fun _=>rfl) (i) yQ;have S:=S.view0 Ou aad;have hold:=fun p hp=>(S.own p hp).1.1;have nK:=S.E.size;refine anR S 26 [(33,fun v w1=>mF w1 v (En.dP 10 (k-i))),(54,Sx.dX u.heap.size y22.cells (some 4))] (fun r=>[.re 32 (.i (IntKind.i64.wrap ((k:Int)-(i:Int)))) (.i (k-i:Nat)),.idx i L.length,.mem 0 0,.idx i L.length,.mem 0 1,.idx i L.length,.mem 0 2,.idx i L.length,.mem 0 3,.new 54 y22.cells (some 4) r]) (fun x=>[x 33,x 54]) (fun x=>[(_,_,true,x 33,33)]) [[]] (fun x=>[(29,.slice va ((Px.rb Rn).length) vc),(33,x 33),(54,x 54)]) ⟨fun v w1 w2 e h=>(show mF w2 v (En.dP 10 (k-i))from aV.below (show mF w1 v (En.dP 10 (k-i))from h) e),Sx.dX.mono,trivial⟩ (fun x=>⟨by intro u hC g F; exact(uS (n:=k-i) (by omega)).mono fun e w2 h=>by obtain⟨v33,rfl,aaz,hb⟩:=h; exact⟨_,rfl,rowB aaz,hb⟩,trivial⟩) (fun ac u x Ez F S=>?_) (hN:=fun r=>⟨⟨rfl,rfl⟩,trivial⟩) (hk:=fun r=>⟨(Sx.zY (by omega) (by omega)),yQ,yQ,yQ,yQ,trivial,trivial⟩);obtain⟨F33,F54,-⟩:=F;obtain⟨a33,c33,e33⟩:=(F33).shape;rw[e33]at S;rw[e33]at F33;obtain⟨b24,F54,abG,X25⟩:=F54;rw[F54]at S;have S:=S.lN;have S:=S.adopt (A:=y22.cells) X25 (by omega) (fun p hp=>by have:=hold p hp; omega) (fun m hm=>by cases hm);refine anP S 55 3 [.slice va ((Px.rb Rn).length) vc,.slice a33 ((En.dP 10 (k-i)).length) c33,.slice (some ⟨b24,0,none⟩) 4 4] (fun ac u b27 Oc Io S=>?_);have exy:y22=px:=by rw[←OD]; exact hx
   have hrb:=Px.Z8 hE.good;rw[hE.flat,ap3]at hrb;have hu9:(En.dP 10 (k-i)).length≤10:=En.iE 10 _;obtain⟨R,Y30⟩:=R.aT S (an4 ((aoc Ez).aen abG) (aoG Oc Io));have ho0:=R.own _ aox;have R:=R.pop;have q:=R.lt;have q0:=S.E.size;refine anB S (some 56) (U1 (ps:=[⟨va,vc,Px.rb Rn⟩,⟨a33,c33,En.dP 10 (k-i)⟩,⟨some ⟨b24,0,none⟩,4,Px.pb y22⟩]) (ae4 (S.bx 0) (rowB ho0) (((aV.below F33 Oc))) (Sx.iO (f:=dY) (Px.pb y22) (S.bx 1) (by simp[Px.pb,maxLen]))) (by simp[Px.pb]; omega)) ?_;rintro e u ⟨v56,rfl,ahf,DF⟩;rw[show(([⟨va,vc,Px.rb Rn⟩,⟨a33,c33,En.dP 10 (k-i)⟩,⟨some ⟨b24,0,none⟩,4,Px.pb y22⟩]:List dA).map dA.l).flatten=(Px.rb Rn++(En.dP 10 (k-i)++Px.pb px)) by rw[exy]; simp]at ahf;refine⟨_,rfl,DF,fun ac S=>?_⟩;have R:=(R.ext DF).add (r:=⟨5,1,v56,(Px.rb Rn++(En.dP 10 (k-i)++Px.pb px)).length,(Px.rb Rn++(En.dP 10 (k-i)++Px.pb px)).map dY⟩) ahf q q0;have S:=S.lN;refine adr S 1 [] [(3,v56)] fun S=>anu<|fP _ _<|an3<|adr S 2 [] [(4,.i k)] fun S=>anu ?_;have S:=S.gq 2;obtain⟨R,Y32⟩:=R.aT S (aoD 2);show ∃i',_∧_;exact⟨(k,v56,(Rn++[(k-i,px)])),⟨hE.step hi hx hlt hkl hall hend,R.as (show [(⟨5,1,v56,(Px.rb Rn++(En.dP 10 (k-i)++Px.pb px)).length,(Px.rb Rn++(En.dP 10 (k-i)++Px.pb px)).map dY⟩:Sx.Row)]=[⟨5,1,v56,(Px.rb (Rn++[(k-i,px)])).length,(Px.rb (Rn++[(k-i,px)])).map dY⟩] by rw[Px.UJ]),S.sn⟩,by show _-_<_-_; omega⟩
  refine an1 ?_;refine aow (ι:=Nat) (fun p a' w'=>((i≤p∧p≤L.length)∧∀(j:Nat) (hj:j<L.length),i≤j→j<p→L[j]=px)∧Sx.Rw w w' [] [⟨5,1,.slice va (Px.rb Rn).length vc,(Px.rb Rn).length,(Px.rb Rn).map dY⟩]∧Sx.St w a' w' 59 [(0,.slice a L.length cap),(2,.sn),(3,.slice va ((Px.rb Rn).length) vc),(4,.i i),(5,.i p)] [] []) (fun p=>L.length-p) (i) ⟨⟨⟨an7 _,by omega⟩,fun j hj h1 h2=>by omega⟩,R,S.sn⟩ ?_;rintro k ac u hI;try dsimp only at hI
  obtain⟨hR,R,S⟩:=hI;have hrk:=hR.1;refine anV fun _ jO=>anV (fun _ oQ=>?_);by_cases ajQ:k<L.length
  ·have ahg:k<L.length:=by omega
   obtain⟨b37,o38,rfl,y43,ahh,ajR,ajS⟩:=aom h (fun _=>rfl) (k) ahg;have S:=S.view0 ajR ajS;have ahi:i<L.length:=by omega
   obtain⟨y51,ahj,ae5,ajT⟩:=Vp.Xl h (fun _=>rfl) (i) ahi;have S:=S.view0 ae5 ajT;refine anI S 15 [.re 15 (.bool ((k:Int)<(L.length:Int))) (.bool true),.idx k L.length,.mem 1 0,.idx i L.length,.mem 0 0,.cmp .eql 192 (.tmp 20) (.tmp 24) (.agg #[.u (y43.r.toNat:Int),.u (y43.g.toNat:Int),.u (y43.b.toNat:Int),.u (y43.a.toNat:Int)]) (.agg #[.u (y51.r.toNat:Int),.u (y51.g.toNat:Int),.u (y51.b.toNat:Int),.u (y51.a.toNat:Int)]) (.bool (y43=y51))] [] [(26,.bool (y43=y51))] trivial (hk:=⟨(an9 Value.bool (aoX (by omega))),ahg,ahi,(anN (fun _=>aay y43 y51 _) (by kernel_rfl)),trivial⟩) fun ac u Xf S=>anu (oQ _ _ ?_);refine anx S (fun SE=>?_) (fun SE=>?_)
   ·refine anZ<|jO _ _<|an1<|an3<|adr S 3 [.re 28 (.i (IntKind.i64.wrap ((k:Int)+1))) (.i (k+1:Nat))] [(5,.i (k+1:Nat))] (hk:=⟨anJ (by omega),trivial⟩) fun S=>anu ?_;obtain⟨R,Y54⟩:=R.aT S (aoc Xf);show ∃i',_∧_;exact⟨(k+1),⟨⟨⟨by omega,by omega⟩,fun j hj h1 h2=>by
     by_cases e:j=k
     ·subst e; have:=SE; rw[ahh]; rw[←hx,ahj]; simpa using this
     exact hR.2 j hj h1 (by omega)⟩,R,S.sn⟩,by show _-_<_-_; omega⟩
   refine aod ?_;obtain⟨R,Y55⟩:=R.aT S (aoc Xf);exact J13 k _ _ R hR.1.2 hR.1.1 hR.2 (fun h e=>by rw[ahh]at e; subst e; have:=SE; rw[←hx,ahj]at this; simp at this) S.sn
  refine anI S 15 [.re 15 (.bool ((k:Int)<(L.length:Int))) (.z),.dead 17 (.z),.dead 18 (.z),.dead 19 (.z),.dead 20 (.z),.dead 21 (.z),.dead 22 (.z),.dead 23 (.z),.dead 24 (.z),.dead 25 (.z)] [] [(26,.z)] trivial (hk:=⟨(an9 Value.bool (apa (by omega))),trivial⟩) fun ac u E56 S=>anu<|oQ _ _<|anM S<|aod ?_;obtain⟨R,Y57⟩:=R.aT S (aoc E56);exact J13 k _ _ R hR.1.2 hR.1.1 hR.2 (fun h=>absurd h ajQ) S.sn
 refine aod<|iL _ _<|anv fun _ QA=>adr S 2 [] [(2,.slice va ((Px.rb Rn).length) vc)] fun S=>anu<|QA _ _<|anz S results163 ?_;exact⟨_,rfl,by rw[←hE.done (by have:=aoi dn; omega)]; exact R.own _ aox,S.E⟩
end
end Go.Proofs.YtapmgonflgahbaaGreatDoor
