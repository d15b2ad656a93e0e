/- Pixels: reference 46's comparison, the encoder. -/
import Derived.Test.YtiafijffnejhoaaGreatDoorPk35
import Derived.Test.YtiafijffnejhoaaGreatDoorEncW1
set_option maxHeartbeats 3200000
set_option maxRecDepth 100000
namespace Go.Proofs.YtiafijffnejhoaaGreatDoor
open Go.RowKit
variable{α:Type}{K:Nat}
set_option linter.unusedVariables false
abbrev kL (w:World)(v:Value)(L:List aO):Prop:=aK 4 aO.cells w v L
theorem H8{w0 w:World}{bl:List (Nat×List Value)}(R:Sx.Rw w0 w bl []):Sx.Rw w0 w bl [⟨5,1,.slice none 0 0,0,[]⟩]:=
 ⟨fun r hr=>by obtain rfl:=aiK.1 hr; exact⟨rfl,.inl ⟨rfl,rfl⟩⟩,R.lt,R.apart⟩
theorem Ku(c d:aO)(w:World):(binOp .eql 74 (.agg c.cells.toArray) (.agg d.cells.toArray)).run Tryz.prog w = .ok (.bool (c=d)) w:=by
 rw[←Kv]; exact YC ..
theorem aav(c d:aO)(w:World):(binOp .neq 74 (.agg c.cells.toArray) (.agg d.cells.toArray)).run Tryz.prog w = .ok (.bool (!decide (c=d))) w:=by
 rw[←Kv]; exact Rj ..
structure jY where
 a:Option Addr
 c:Nat
 l:List UInt8
def jY.v(p:jY):Value := .slice p.a p.l.length p.c
abbrev iT (w:World)(v:Value)(l:List UInt8):Prop:=aK 1 (fun n:UInt8=>[fO n]) w v l
def YL(w:World)(v:Value)(ps:List jY):Prop:=aK 1 (fun p:jY=>[p.v]) w v ps∧∀p∈ps,iT w p.v p.l
abbrev oh (ps:List jY)(i:Nat):List UInt8:=((ps.take i).map jY.l).flatten
theorem DI{ps:List jY}{i:Nat}{p:jY}(hi:i<ps.length)(hp:ps[i]=p):oh ps (i+1)=oh ps i++p.l:=by
 unfold oh;rw[ahM hi,hp]; simp
theorem Xg{ps:List jY}{i:Nat}:(oh ps i).length≤((ps.map jY.l).flatten).length:=by
 unfold oh;conv=>rhs; rw[←ait i ps]
 rw[ahT,List.flatten_append,ahP]; omega
theorem TK{a b:Nat}(h:(((a:Int)) != (b:Int))=false):a=b:=by simp at h; omega
theorem Xh{l m:List aO}{k:Nat}(hk:k<l.length)(hk':k<m.length)(hR:l.take k=m.take k){x y:aO}(hx:l[k]=x)(hy:m[k]=y)(he:(!decide (x=y))=false):l.take (k+1)=m.take (k+1):=by
 rw[ahM hk,ahM hk',hR,hx,hy];simp at he;rw[he]
theorem vk{w:World}{v:Value}{L:List aO}(h:kL w v L) :
  Calls Tryz.prog 5 #[v] w fun e w'=>e = .returned (.bool ((L.length:Int)≤300))∧Ext w w':=by
 obtain⟨a,cap,rfl⟩:=h.shape;refine agX Tryz.func5 Tryz.ntmps5 fun ac S=>agS fun _ aX=>adr S 1 [] [(2,.bool false)] fun S=>agR<|aX _ _<|agS fun _ fH=>adr S 4 [] [(2,.bool ((L.length:Int)≤300))] fun S=>agR<|fH _ _<|agV S Tryz.results5 ?_;exact⟨rfl,S.E⟩
theorem PI{w:World}{p:aO} :
  Calls Tryz.prog 26 #[.agg p.cells.toArray] w fun e w'=>∃v,e = .returned v∧OwnB w.heap.size w' v (Px.pb p)∧Ext w w':=by
 skip;refine agX Tryz.func26 Tryz.ntmps26 fun ac S=>agS fun _ aX=>agT S 1 p.cells fun ac u b2 E3 hb4 S=>adr S 1 [] [(2,.slice none 0 0)] fun S=>agR<|aX _ _<|agS fun _ dM=>adr S 8 [.mem 0 0,.mem 0 1,.mem 0 2,.mem 0 3] [(4,.int .u8 (p.r.toNat:Int)),(6,.int .u8 (p.g.toNat:Int)),(8,.int .u8 (p.b.toNat:Int)),(10,.int .u8 (p.a.toNat:Int))] (fun S=>?_);have R:=aiI S;refine Sx.newRow S R 11 4 5 1 p.cells fun ac u v6 E7 X8 R S=>adr S 1 [] [(2,v6)] fun S=>agR<|dM _ _<|agV S Tryz.results26 ?_;exact⟨_,rfl,R.own _ ahZ,S.E⟩
theorem lW{w:World}{v u:Value}{l m:List aO}(h:kL w v l)(h':kL w u m) :
  Calls Tryz.prog 11 #[v,u] w fun e w'=>e = .returned (.bool (l=m))∧Ext w w':=by
 obtain⟨a,cap,rfl⟩:=h.shape;obtain⟨d,cap',rfl⟩:=h'.shape;have hmax:l.length≤9223372036854775807:=h.len;refine agX Tryz.func11 Tryz.ntmps11 fun ac S=>agS fun _ aX=>adr S 1 [] [(4,.bool false)] fun S=>agR<|aX _ _<|ag9 fun _ fH=>agS fun _ jK=>adr S 5 [] [(10,.bool (((l.length:Int)) != (m.length:Int)))] fun S=>agR (jK _ _ ?_);refine agU S (fun hc4=>?_) (fun hc4=>?_)
 ·refine agS fun _ dM=>adr S 1 [] [(4,.bool false)] fun S=>agR<|dM _ _<|agV S Tryz.results11 ?_;exact⟨aI (ail (fun e=>by rw[e]at hc4; simp at hc4)).symm,S.E⟩
 refine aha<|fH _ _<|ag9 fun _ iI=>agS fun _ jf=>adr S 1 [] [(5,.i 0)] fun S=>agR<|jf _ _<|ahc ?_;refine ahJ (ι:=Nat) (fun p a' w'=>p≤l.length∧(l.take p=m.take p)∧Sx.St w a' w' 26 [(0,.slice a l.length cap),(1,.slice d m.length cap'),(4,.bool false),(5,.i p)] [] []) (fun p=>l.length-p) (0) ⟨ahk _,rfl,S.sn⟩ ?_;rintro k ac u hI;try dsimp only at hI
 obtain⟨hk,hR,S⟩:=hI;refine ag9 fun _ dU=>agS fun _ iP=>adr S 4 [] [(14,.bool ((k:Int)<(l.length:Int)))] fun S=>agR (iP _ _ ?_);refine agU S (fun cO=>?_) (fun cO=>?_)
 ·refine aha<|dU _ _<|ag9 fun _ dB=>ahc<|ag9 (fun _ dP=>?_);have jJ:k<l.length:=by have:=aho cO; omega
  obtain⟨b14,Wu,rfl,x20,nZ,xO,zN⟩:=ahx h (fun _=>rfl) (k) jJ;have S:=S.view0 xO zN;have jP:k<m.length:=by have:=TK hc4; have:=aho cO; omega
  obtain⟨b22,o23,rfl,y28,mZ,yZ,Eo⟩:=ahx h' (fun _=>rfl) (k) jP;have S:=S.view0 yZ Eo;refine ag2 S 9 [.idx k l.length,.mem 1 0,.idx k m.length,.mem 0 0,.cmp .neq 74 (.tmp 20) (.tmp 24) (.agg #[.int .u8 (x20.r.toNat:Int),.int .u8 (x20.g.toNat:Int),.int .u8 (x20.b.toNat:Int),.int .u8 (x20.a.toNat:Int)]) (.agg #[.int .u8 (y28.r.toNat:Int),.int .u8 (y28.g.toNat:Int),.int .u8 (y28.b.toNat:Int),.int .u8 (y28.a.toNat:Int)]) (.bool (!decide (x20=y28)))] [] [(25,.bool (!decide (x20=y28)))] trivial (hk:=⟨jJ,jP,(Sx.dX (fun _=>aav x20 y28 _) (by kernel_rfl)),trivial⟩) fun ac u Jm S=>agR (dP _ _ ?_);refine agU S (fun uT=>?_) (fun uT=>?_)
  ·refine agS fun _ wz=>adr S 1 [] [(4,.bool false)] fun S=>agR<|wz _ _<|agV S Tryz.results11 ?_;exact⟨aI (ail (fun e=>by subst e; rw[nZ]at mZ; simp[mZ]at uT)).symm,S.E⟩
  refine aha<|dB _ _<|ahi<|adr S 3 [.re 16 (.i (IntKind.i64.wrap ((k:Int)+1))) (.i (k+1:Nat))] [(5,.i (k+1:Nat))] (hk:=⟨ag7 (by omega),trivial⟩) fun S=>agR ?_;show ∃i',_∧_;exact⟨(k+1),⟨by omega,Xh jJ jP hR nZ mZ uT,S.sn⟩,by show _-_<_-_; omega⟩
 refine ahn<|iI _ _<|agS fun _ lG=>adr S 1 [] [(4,.bool true)] fun S=>agR<|lG _ _<|agV S Tryz.results11 ?_;exact⟨aI (ah0 (by rw[ahV (by have:=aht cO; omega),ahV (by have:=aht cO; have:=TK hc4; omega)]at hR; exact hR)).symm,S.E⟩
theorem vC{w:World}{v:Value}{L:List aO}(h:kL w v L)(hn:L.length≤1000000) :
  Calls Tryz.prog 9 #[v] w fun e w'=>∃v',e = .returned v'∧OwnB w.heap.size w' v' (Px.enc L)∧Ext w w':=by
 obtain⟨a,cap,rfl⟩:=h.shape;refine agX Tryz.func9 Tryz.ntmps9 fun ac S=>agS fun _ aX=>adr S 1 [] [(2,.slice none 0 0)] fun S=>agR<|aX _ _<|agS fun _ fH=>adr S 1 [] [(3,.slice none 0 0)] fun S=>agR<|fH _ _<|ag9 fun _ jK=>agS fun _ uQ=>adr S 1 [] [(4,.i 0)] fun S=>agR<|uQ _ _<|ahc ?_;have R:=aiI S;have R:=H8 R;refine ahJ (ι:=Nat×Value×List (Nat×aO)) (fun p a' w'=>(Px.sG L p.1 p.2.2)∧Sx.Rw w w' [] [⟨5,1,p.2.1,(Px.rb p.2.2).length,(Px.rb p.2.2).map fO⟩]∧Sx.St w a' w' 44 [(0,.slice a L.length cap),(2,.slice none 0 0),(3,p.2.1),(4,.i p.1)] [] []) (fun p=>L.length-p.1) (0,(.slice none 0 0),[]) ⟨Px.sG.zero L,R,S.sn⟩ ?_;rintro⟨i,v,Rn⟩ ac u hI;try dsimp only at hI
 obtain⟨hR,R,S⟩:=hI;have hE:=hR;refine ag9 fun _ dM=>agS fun _ iI=>adr S 4 [] [(9,.bool ((i:Int)<(L.length:Int)))] fun S=>agR (iI _ _ ?_);refine agU S (fun zX=>?_) (fun zX=>?_)
 ·refine aha<|dM _ _<|ahc<|agS (fun _ dU=>?_);have hi:i<L.length:=by have:=aho zX; omega
  obtain⟨x,hx⟩:∃z,L[i]=z:=⟨_,rfl⟩;refine adr S 2 [] [(5,.i i)] fun S=>agR<|dU _ _<|ag9 (fun κq iP=>?_);have J10:∀(k:Nat) (ac:Act) (u:World),(Sx.Rw w u [] [⟨5,1,v,(Px.rb Rn).length,(Px.rb Rn).map fO⟩])→(k≤L.length)→(i≤k)→(∀(j:Nat) (hj:j<L.length),i≤j→j<k→L[j]=x)→(∀h:k<L.length,L[k]≠x)→Sx.St w ac u 44 [(0,.slice a L.length cap),(2,.slice none 0 0),(3,v),(4,.i i),(5,.i k)] [] []→κq ac u:=by
   intro k ac u R hkl hik hall hend S;refine iP _ _<|agS (fun _ dB=>?_);have hlt:i<k:=by rcases ahF i k with h | h; exact h; obtain rfl:k=i:=(by omega); exact absurd hx (hend hi)
   refine adr S 5 [.re 31 (.i (IntKind.i64.wrap ((k:Int)-(i:Int)))) (.i (k-i:Nat)),.re 32 (.int .u64 (IntKind.u64.wrap ((k-i:Nat):Int))) (.int .u64 ((k-i:Nat):Int))] [(28,v),(32,.int .u64 ((k-i:Nat):Int))] (hk:=⟨(Sx.iL (by omega) (by omega)),(wrap_u64 (by omega)),trivial⟩) fun S=>agZ S (some 33) (ni (k-i) _ (by omega)) ?_;rintro e u ⟨v33,rfl,aaw,vV⟩;refine⟨_,rfl,vV,fun ac S=>?_⟩;have hrb:=Px.TG hE.good;rw[hE.flat,aiS]at hrb;have hu9:(En.dF 10 (k-i)).length≤10:=En.sF 10 _;obtain⟨R,Y13⟩:=R.dQ S (ahQ vV);refine Sx.app S R 0 34 rfl uj (Kw (aaw)) (by show(Px.rb Rn).length+(En.dF 10 (k-i)).length≤9223372036854775807; omega) (by show((Px.rb Rn).length+(En.dF 10 (k-i)).length)*1≤140737488355328; omega) fun ac u v14 X15 R S=>adr S 1 [] [(3,v14)] fun S=>agR<|dB _ _<|agS (fun _ kG=>?_);have acz:i<L.length:=by omega
   obtain⟨b17,o18,rfl,y23,aeQ,OO,aeR⟩:=ahx h (fun _=>rfl) (i) acz;have S:=S.view0 OO aeR;refine adr S 5 [.idx i L.length,.mem 0 0] [(35,v14),(39,.agg y23.cells.toArray)] (hk:=⟨acz,trivial⟩) fun S=>agZ S (some 40) (PI (p:=y23)) ?_;rintro e u ⟨v40,rfl,acA,VE⟩;rw[show y23=x from by rw[←aeQ]; exact hx]at acA;refine⟨_,rfl,VE,fun ac S=>?_⟩;obtain⟨R,Y26⟩:=R.dQ S (ahQ VE);refine Sx.app S R 0 41 rfl uj (Kw (acA)) (by show(Px.rb Rn).length+(En.dF 10 (k-i)).length+4≤9223372036854775807; omega) (by show((Px.rb Rn).length+(En.dF 10 (k-i)).length+4)*1≤140737488355328; omega) fun ac u v27 X28 R S=>adr S 1 [] [(3,v27)] fun S=>agR<|kG _ _<|ahi<|adr S 2 [] [(4,.i k)] fun S=>agR ?_;show ∃i',_∧_;exact⟨(k,v27,(Rn++[(k-i,x)])),⟨hE.step hi hx hlt hkl hall hend,R.as (show [(⟨5,1,v27,(Px.rb Rn).length+(En.dF 10 (k-i)).length+4,(Px.rb Rn).map fO++(En.dF 10 (k-i)).map fO++(Px.pb x).map fO⟩:Sx.Row)]=[⟨5,1,v27,(Px.rb (Rn++[(k-i,x)])).length,(Px.rb (Rn++[(k-i,x)])).map fO⟩] by rw[Px.Nl]; simp[Px.pb,aiv]),S.sn⟩,by show _-_<_-_; omega⟩
  refine ahc ?_;refine ahJ (ι:=Nat) (fun p a' w'=>((i≤p∧p≤L.length)∧∀(j:Nat) (hj:j<L.length),i≤j→j<p→L[j]=x)∧Sx.Rw w w' [] [⟨5,1,v,(Px.rb Rn).length,(Px.rb Rn).map fO⟩]∧Sx.St w a' w' 44 [(0,.slice a L.length cap),(2,.slice none 0 0),(3,v),(4,.i i),(5,.i p)] [] []) (fun p=>L.length-p) (i) ⟨⟨⟨ahh _,by omega⟩,fun j hj h1 h2=>by omega⟩,R,S.sn⟩ ?_;rintro k ac u hI;try dsimp only at hI
  obtain⟨hR,R,S⟩:=hI;have hrk:=hR.1;refine ag9 fun _ yX=>ag9 (fun _ qX=>?_);by_cases aeS:k<L.length
  ·have acB:k<L.length:=by omega
   obtain⟨b33,o34,rfl,y39,acC,abR,aeT⟩:=ahx h (fun _=>rfl) (k) acB;have S:=S.view0 abR aeT;have acD:i<L.length:=by omega
   obtain⟨y47,acE,hb48,aeU⟩:=Vp.PK h (fun _=>rfl) (i) acD;have S:=S.view0 hb48 aeU;refine ag2 S 15 [.re 14 (.bool ((k:Int)<(L.length:Int))) (.bool true),.idx k L.length,.mem 1 0,.idx i L.length,.mem 0 0,.cmp .eql 74 (.tmp 19) (.tmp 23) (.agg #[.int .u8 (y39.r.toNat:Int),.int .u8 (y39.g.toNat:Int),.int .u8 (y39.b.toNat:Int),.int .u8 (y39.a.toNat:Int)]) (.agg #[.int .u8 (y47.r.toNat:Int),.int .u8 (y47.g.toNat:Int),.int .u8 (y47.b.toNat:Int),.int .u8 (y47.a.toNat:Int)]) (.bool (y39=y47))] [] [(25,.bool (y39=y47))] trivial (hk:=⟨(ahm Value.bool (ah0 (by omega))),acB,acD,(Sx.dX (fun _=>Ku y39 y47 _) (by kernel_rfl)),trivial⟩) fun ac u E32 S=>agR (qX _ _ ?_);refine agU S (fun aax=>?_) (fun aax=>?_)
   ·refine aha<|yX _ _<|ahc<|ahi<|adr S 3 [.re 27 (.i (IntKind.i64.wrap ((k:Int)+1))) (.i (k+1:Nat))] [(5,.i (k+1:Nat))] (hk:=⟨ag7 (by omega),trivial⟩) fun S=>agR ?_;obtain⟨R,Y50⟩:=R.dQ S (ahQ E32);show ∃i',_∧_;exact⟨(k+1),⟨⟨⟨by omega,by omega⟩,fun j hj h1 h2=>by
     by_cases e:j=k
     ·subst e; have:=aax; rw[acC]; rw[←hx,acE]; simpa using this
     exact hR.2 j hj h1 (by omega)⟩,R,S.sn⟩,by show _-_<_-_; omega⟩
   refine ahn ?_;obtain⟨R,Y51⟩:=R.dQ S (ahQ E32);exact J10 k _ _ R hR.1.2 hR.1.1 hR.2 (fun h e=>by rw[acC]at e; subst e; have:=aax; rw[←hx,acE]at this; simp at this) S.sn
  refine ag2 S 15 [.re 14 (.bool ((k:Int)<(L.length:Int))) (.bool false),.dead 16 (.bool false),.dead 17 (.bool false),.dead 18 (.bool false),.dead 19 (.bool false),.dead 20 (.bool false),.dead 21 (.bool false),.dead 22 (.bool false),.dead 23 (.bool false),.dead 24 (.bool false)] [] [(25,.bool false)] trivial (hk:=⟨(ahm Value.bool (ail (by omega))),trivial⟩) fun ac u E52 S=>agR<|qX _ _<|ag5 S<|ahn ?_;obtain⟨R,Y53⟩:=R.dQ S (ahQ E52);exact J10 k _ _ R hR.1.2 hR.1.1 hR.2 (fun h=>absurd h aeS) S.sn
 refine ahn<|jK _ _<|agS fun _ D9=>adr S 2 [] [(2,v)] fun S=>agR<|D9 _ _<|agV S Tryz.results9 ?_;exact⟨_,rfl,by rw[←hE.done (by have:=aht zX; omega)]; exact R.own _ ahZ,S.E⟩
theorem TL{w:World}{n:Nat}(hn:n≤9223372036854775807) :
  Calls Tryz.prog 28 #[.i n] w fun e w'=>∃v,e = .returned v∧OwnB w.heap.size w' v (En.dF 10 n)∧Ext w w':=by
 skip;refine agX Tryz.func28 Tryz.ntmps28 fun ac S=>agS fun _ aX=>adr S 1 [] [(2,.slice none 0 0)] fun S=>agR<|aX _ _<|agS fun _ fH=>adr S 2 [.re 4 (.int .u64 (IntKind.u64.wrap (n:Int))) (.int .u64 (n:Int))] [(4,.int .u64 (n:Int))] (hk:=⟨(wrap_u64 (by omega)),trivial⟩) fun S=>agZ S (some 5) (wG n _ (by omega)) ?_;rintro e u ⟨v5,rfl,ho5,E3⟩;refine⟨_,rfl,E3,fun ac S=>?_⟩;refine adr S 1 [] [(2,v5)] fun S=>agR<|fH _ _<|agV S Tryz.results28 ?_;exact⟨_,rfl,ho5,S.E⟩
theorem Xi{w:World}{v:Value}{ps:List jY}(h:YL w v ps)(hn:((ps.map jY.l).flatten).length≤10000000) :
  Calls Tryz.prog 27 #[v] w fun e w'=>∃v',e = .returned v'∧OwnB w.heap.size w' v' ((ps.map jY.l).flatten)∧Ext w w':=by
 obtain⟨a,cap,rfl⟩:=h.1.shape;have hmax:ps.length≤9223372036854775807:=h.1.len;refine agX Tryz.func27 Tryz.ntmps27 fun ac S=>agS fun _ aX=>adr S 1 [] [(2,.slice none 0 0)] fun S=>agR<|aX _ _<|agS (fun _ fH=>?_);have R:=aiI S;refine Sx.newRow S R 6 0 5 1 [] fun ac u v3 E4 X5 R S=>adr S 1 [] [(3,v3)] fun S=>agR<|fH _ _<|ag9 fun _ iI=>agS fun _ jf=>adr S 1 [] [(4,.i 0)] fun S=>agR<|jf _ _<|ahc ?_;refine ahJ (ι:=Nat×Value) (fun p a' w'=>(p.1≤ps.length)∧Sx.Rw w w' [] [⟨5,1,p.2,(oh ps p.1).length,(oh ps p.1).map fO⟩]∧Sx.St w a' w' 33 [(0,.slice a ps.length cap),(2,.slice none 0 0),(3,p.2),(4,.i p.1)] [] []) (fun p=>ps.length-p.1) (0,v3) ⟨ahk _,R,S.sn⟩ ?_;rintro⟨i,v⟩ ac u hI;try dsimp only at hI
 obtain⟨hR,R,S⟩:=hI;refine ag9 fun _ dU=>agS fun _ iP=>adr S 4 [] [(10,.bool ((i:Int)<(ps.length:Int)))] fun S=>agR (iP _ _ ?_);refine agU S (fun cO=>?_) (fun cO=>?_)
 ·refine aha<|dU _ _<|ag9 fun _ dB=>ahc<|agS fun _ dP=>adr S 1 [] [(5,.i 0)] fun S=>agR<|dP _ _<|ahc ?_;have hi:i<ps.length:=by have:=aho cO; omega
  obtain⟨p,hp⟩:∃z,ps[i]=z:=⟨_,rfl⟩;obtain⟨pa,pc,pl⟩:=p;have hnd:iT w (.slice pa pl.length pc) pl:=h.2 ⟨pa,pc,pl⟩ (hp▸ah3 hi);refine ahJ (ι:=Nat×Value) (fun p a' w'=>(p.1≤pl.length)∧Sx.Rw w w' [] [⟨5,1,p.2,(oh ps i++pl.take p.1).length,(oh ps i++pl.take p.1).map fO⟩]∧Sx.St w a' w' 33 [(0,.slice a ps.length cap),(2,.slice none 0 0),(3,p.2),(4,.i i),(5,.i p.1)] [] []) (fun p=>pl.length-p.1) (0,v) ⟨ahk _,R.as (show [(⟨5,1,v,(oh ps i).length,(oh ps i).map fO⟩:Sx.Row)]=[⟨5,1,v,(oh ps i++pl.take 0).length,(oh ps i++pl.take 0).map fO⟩] by rw[List.take_zero,aix]),S.sn⟩ ?_;rintro⟨k,v2⟩ ac u hI;try dsimp only at hI
  obtain⟨hR,R,S⟩:=hI;refine ag9 fun _ gX=>agS (fun _ fP=>?_);have nC:i<ps.length:=hi;obtain⟨b15,o16,rfl,p21,xX,Ez,EC⟩:=ahx h.1 (fun _=>rfl) (i) nC;obtain rfl:p21=⟨pa,pc,pl⟩:=by rw[←xX]; exact hp
  have S:=S.view0 Ez EC;refine adr S 7 [.idx i ps.length,.mem 0 0] [(19,.bool ((k:Int)<(pl.length:Int)))] (hk:=⟨nC,trivial⟩) fun S=>agR (fP _ _ ?_);refine agU S (fun rP=>?_) (fun rP=>?_)
  ·refine aha<|gX _ _<|ag9 fun _ xP=>ahc ?_;have hck:=aho rP;refine ahi ?_;have aay:k<pl.length:=by have:=aho rP; omega
   obtain⟨b25,o26,rfl,c31,hx29,Oc,aeV⟩:=ahx hnd (fun _=>rfl) (k) aay;have S:=S.view0 Oc aeV;refine adr S 8 [.idx i ps.length,.mem 1 0,.idx k pl.length,.mem 0 0] [(22,v2),(29,fO c31)] (hk:=⟨nC,aay,trivial⟩) fun S=>Sx.news S 30 1 [fO c31] (fun ac u b33 LM JA S=>?_);have hal:=Xg (ps:=ps) (i:=i+1);rw[DI hi hp,ahP]at hal;have hal2:(oh ps i).length+pl.length≤((ps.map jY.l).flatten).length:=hal;have hxl:(oh ps i++pl.take k).length≤100000000:=by rw[ahP,aiS]; omega
   obtain⟨R,Y36⟩:=R.dQ S (aiz LM JA);refine Sx.app S R 0 31 rfl uj (Sx.EU (m:=1) (k:=1) (A:=[fO c31]) (S.bx 0)) (by show(oh ps i++pl.take k).length+1≤9223372036854775807; omega) (by show((oh ps i++pl.take k).length+1)*1≤140737488355328; omega) fun ac u v37 X38 R S=>adr S 1 [] [(3,v37)] fun S=>agR<|xP _ _<|ahi<|adr S 3 [.re 21 (.i (IntKind.i64.wrap ((k:Int)+1))) (.i (k+1:Nat))] [(5,.i (k+1:Nat))] (hk:=⟨ag7 (by omega),trivial⟩) fun S=>agR ?_;have S:=S.nD 1;obtain⟨R,Y39⟩:=R.dQ S (ai2 1);show ∃i',_∧_;exact⟨((k+1),v37),⟨by have:=aho rP; omega,R.as (show [(⟨5,1,v37,(oh ps i++pl.take k).length+1,(oh ps i++pl.take k).map fO++[fO c31]⟩:Sx.Row)]=[⟨5,1,v37,(oh ps i++pl.take (k+1)).length,(oh ps i++pl.take (k+1)).map fO⟩] by rw[ahM aay,hx29]; simp[aiv]),S.sn⟩,by show _-_<_-_; omega⟩
  refine ahn<|dB _ _<|ahi<|adr S 3 [.re 12 (.i (IntKind.i64.wrap ((i:Int)+1))) (.i (i+1:Nat))] [(4,.i (i+1:Nat))] (hk:=⟨ag7 (by omega),trivial⟩) fun S=>agR ?_;show ∃i',_∧_;have hkk:k=pl.length:=by have:=aht rP; omega
  exact⟨((i+1),v2),⟨by omega,R.as (by rw[hkk,ahX,←DI hi hp]),S.sn⟩,by show _-_<_-_; omega⟩
 refine ahn<|iI _ _<|agS fun _ uM=>adr S 2 [] [(2,v)] fun S=>agR<|uM _ _<|ahj ?_;have hii:ps.length≤i:=by have:=aht cO; omega
 refine ag3 S Tryz.results27 ?_;exact⟨_,rfl,by have:=R.own _ ahZ; unfold oh at this; rw[ahV hii]at this; exact this,S.E⟩
end Go.Proofs.YtiafijffnejhoaaGreatDoor
