/- Arguments of chapter 46 that came in: pixels, bytes. -/
import Derived.Test.YtiafijffnejhoaaGreatDoorPk22
import Derived.Test.YtiafijffnejhoaaGreatDoorPixW
set_option linter.unusedVariables false
namespace Go.Proofs.YtiafijffnejhoaaGreatDoor
section
open Go.RowKit Go.ChangeShapes Go.WideShapes
section
variable{H:Type}{enc:TypeId×Value→H}{W:World}{sp:Nat→Bool}{held:Bool}
set_option maxRecDepth 100000
structure G5 where
 a:Option Addr
 c:Nat
 l:List aO
def G5.v(m:G5):Value := .slice m.a m.l.length m.c
theorem rZ{base:Nat}{v:Value}{d:DataW H}{p:List MemPlace}(hv:Value.okWide Tryz.prog W .any base 22 v)(h:DataW.Trod enc Tryz.prog W 0 sp held 22 v d p):∃m:G5,v=m.v∧kL W m.v m.l:=by
 obtain⟨a,len,cap,rfl⟩:=okWide_slice Tryz.underlying22 hv;obtain⟨fuel,hf⟩:=h;have hf:DataW.trod enc Tryz.prog W 0 sp held fuel 22 [.slice a len cap]=some (d,p):=by simpa[Value.cells]using hf
 obtain⟨a1,k1,l1,e1,r1,-⟩:=Nr (k:=4) Tryz.underlying22 (by decide) (by kernel_rfl) aO.cells (fun _=>True) (fun n cs y h=>(PO h).imp fun _ h=>⟨h,trivial⟩) hf;have e2:Value.slice a len cap = .slice a1 l1.length k1:=by simpa using e1
 exact⟨⟨a1,k1,l1⟩,e2,r1⟩
theorem Xc{base:Nat}{v:Value}{d:DataW H}{p:List MemPlace}(hv:Value.okWide Tryz.prog W .any base 23 v)(h:DataW.Trod enc Tryz.prog W 0 sp held 23 v d p):∃m:jY,v=m.v∧iT W m.v m.l:=by
 obtain⟨a,len,cap,rfl⟩:=okWide_slice Tryz.underlying23 hv;obtain⟨fuel,hf⟩:=h;have hf:DataW.trod enc Tryz.prog W 0 sp held fuel 23 [.slice a len cap]=some (d,p):=by simpa[Value.cells]using hf
 obtain⟨a1,k1,l1,e1,r1,-⟩:=Nr (k:=1) Tryz.underlying23 (by decide) (by kernel_rfl) (fun n:UInt8=>[fO n]) (fun _=>True) (fun n cs y h=>(AB Tryz.underlying5 h).imp fun _ h=>⟨h,trivial⟩) hf;have e2:Value.slice a len cap = .slice a1 l1.length k1:=by simpa using e1
 exact⟨⟨a1,k1,l1⟩,e2,r1⟩
end
end
section
open Go.RowKit
variable{α:Type}{K:Nat}
theorem aaQ{w:World}{b:Nat}{p q r:jY}(hx:Bx w b #[p.v,q.v,r.v])(h1:iT w p.v p.l)(h2:iT w q.v q.l)(h3:iT w r.v r.l):YL w (.slice (some ⟨b,0,none⟩) 3 3) [p,q,r]:=
 ⟨Sx.oI (f:=jY.v) [p,q,r] hx (by simp[maxLen]),fun z hz=>by
  rcases ahw.1 hz with rfl | hz
  ·exact h1
  rcases ahw.1 hz with rfl | hz
  ·exact h2
  rcases ahw.1 hz with rfl | hz
  ·exact h3
  cases hz⟩
set_option maxRecDepth 100000 in
set_option maxHeartbeats 3200000 in
theorem wJ{w:World}{v:Value}{L:List aO}(h:kL w v L)(hn:L.length≤500000) :
  Calls Tryz.prog 10 #[v] w fun e w'=>∃v',e = .returned v'∧OwnB w.heap.size w' v' (Px.enc L)∧Ext w w':=by
 obtain⟨a,cap,rfl⟩:=h.shape;refine agX Tryz.func10 Tryz.ntmps10 fun ac S=>agS fun _ aX=>adr S 1 [] [(2,.slice none 0 0)] fun S=>agR<|aX _ _<|agS (fun _ fH=>?_);have R:=aiI S;refine Sx.newRow S R 6 0 5 1 [] fun ac u v3 E4 X5 R S=>adr S 1 [] [(3,v3)] fun S=>agR<|fH _ _<|ag9 fun _ iI=>agS fun _ jf=>adr S 1 [] [(4,.i 0)] fun S=>agR<|jf _ _<|ahc ?_;refine ahJ (ι:=Nat×Value×List (Nat×aO)) (fun p a' w'=>(Px.sG L p.1 p.2.2)∧Sx.Rw w w' [] [⟨5,1,p.2.1,(Px.rb p.2.2).length,(Px.rb p.2.2).map fO⟩]∧Sx.St w a' w' 59 [(0,.slice a L.length cap),(2,.slice none 0 0),(3,p.2.1),(4,.i p.1)] [] []) (fun p=>L.length-p.1) (0,v3,[]) ⟨Px.sG.zero L,R,S.sn⟩ ?_;rintro⟨i,v,Rn⟩ ac u hI;try dsimp only at hI
 obtain⟨hR,R,S⟩:=hI;have hE:=hR;obtain⟨va,vc,rfl⟩:=Sx.pz (show OwnB w.heap.size u v (Px.rb Rn)from R.own _ ahZ);refine ag9 fun _ dU=>agS fun _ iP=>adr S 4 [] [(10,.bool ((i:Int)<(L.length:Int)))] fun S=>agR (iP _ _ ?_);refine agU S (fun cO=>?_) (fun cO=>?_)
 ·refine aha<|dU _ _<|ahc<|agS (fun _ dB=>?_);have hi:i<L.length:=by have:=aho cO; omega
  obtain⟨px,hx⟩:∃z,L[i]=z:=⟨_,rfl⟩;refine adr S 2 [] [(5,.i i)] fun S=>agR<|dB _ _<|ag9 (fun κq dP=>?_);have J13:∀(k:Nat) (ac:Act) (u:World),(Sx.Rw w u [] [⟨5,1,.slice va (Px.rb Rn).length vc,(Px.rb Rn).length,(Px.rb Rn).map fO⟩])→(k≤L.length)→(i≤k)→(∀(j:Nat) (hj:j<L.length),i≤j→j<k→L[j]=px)→(∀h:k<L.length,L[k]≠px)→Sx.St w ac u 59 [(0,.slice a L.length cap),(2,.slice none 0 0),(3,.slice va ((Px.rb Rn).length) vc),(4,.i i),(5,.i k)] [] []→κq ac u:=by
   intro k ac u R hkl hik hall hend S;refine dP _ _<|ag9 (fun _ fP=>?_);have hlt:i<k:=by rcases ahF i k with h | h; exact h; obtain rfl:k=i:=(by omega); exact absurd hx (hend hi)
   have Un:i<L.length:=by omega
   obtain⟨b16,o17,rfl,y22,afm,Wi,afn⟩:=ahx h (fun _=>rfl) (i) Un;have S:=S.view0 Wi afn;have hold:=fun p hp=>(S.own p hp).1.1;have abT:=S.E.size;refine Sx.pq S 26 [(33,fun v w1=>iT w1 v (En.dF 10 (k-i))),(54,Sx.qY u.heap.size y22.cells (some 4))] (fun r=>[.re 32 (.i (IntKind.i64.wrap ((k:Int)-(i:Int)))) (.i (k-i:Nat)),.idx i L.length,.mem 0 0,.idx i L.length,.mem 0 1,.idx i L.length,.mem 0 2,.idx i L.length,.mem 0 3,.new 54 y22.cells (some 4) r]) (fun x=>[x 33,x 54]) (fun x=>[(_,_,true,x 33,33)]) [[]] (fun x=>[(29,.slice va ((Px.rb Rn).length) vc),(33,x 33),(54,x 54)]) ⟨fun v w1 w2 e h=>(show iT w2 v (En.dF 10 (k-i))from aK.below (show iT w1 v (En.dF 10 (k-i))from h) e),Sx.qY.mono,trivial⟩ (fun x=>⟨by intro u hC g F; exact(TL (n:=k-i) (by omega)).mono fun e w2 h=>by obtain⟨v33,rfl,aaw,hb⟩:=h; exact⟨_,rfl,rowB aaw,hb⟩,trivial⟩) (fun ac u x CO F S=>?_) (hN:=fun r=>⟨⟨rfl,rfl⟩,trivial⟩) (hk:=fun r=>⟨(Sx.iL (by omega) (by omega)),Un,Un,Un,Un,trivial,trivial⟩);obtain⟨F33,F54,-⟩:=F;obtain⟨a33,c33,e33⟩:=(F33).shape;rw[e33]at S;rw[e33]at F33;obtain⟨b24,F54,aaB,X25⟩:=F54;rw[F54]at S;have S:=S.tu;have S:=S.adopt (A:=y22.cells) X25 (by omega) (fun p hp=>by have:=hold p hp; omega) (fun m hm=>by cases hm);refine Sx.news S 55 3 [.slice va ((Px.rb Rn).length) vc,.slice a33 ((En.dF 10 (k-i)).length) c33,.slice (some ⟨b24,0,none⟩) 4 4] (fun ac u b27 Wn yZ S=>?_);have exy:y22=px:=by rw[←afm]; exact hx
   have hrb:=Px.TG hE.good;rw[hE.flat,aiS]at hrb;have hu9:(En.dF 10 (k-i)).length≤10:=En.sF 10 _;obtain⟨R,Y30⟩:=R.dQ S (ah9 ((ahQ CO).acw aaB) (aiz Wn yZ));have ho0:=R.own _ ahZ;have R:=R.pop;have q:=R.lt;have q0:=S.E.size;refine agZ S (some 56) (Xi (ps:=[⟨va,vc,Px.rb Rn⟩,⟨a33,c33,En.dF 10 (k-i)⟩,⟨some ⟨b24,0,none⟩,4,Px.pb y22⟩]) (aaQ (S.bx 0) (rowB ho0) (((aK.below F33 Wn))) (Sx.oI (f:=fO) (Px.pb y22) (S.bx 1) (by simp[Px.pb,maxLen]))) (by simp[Px.pb]; omega)) ?_;rintro e u ⟨v56,rfl,acZ,Dl⟩;rw[show(([⟨va,vc,Px.rb Rn⟩,⟨a33,c33,En.dF 10 (k-i)⟩,⟨some ⟨b24,0,none⟩,4,Px.pb y22⟩]:List jY).map jY.l).flatten=(Px.rb Rn++(En.dF 10 (k-i)++Px.pb px)) by rw[exy]; simp]at acZ;refine⟨_,rfl,Dl,fun ac S=>?_⟩;have R:=(R.ext Dl).add (r:=⟨5,1,v56,(Px.rb Rn++(En.dF 10 (k-i)++Px.pb px)).length,(Px.rb Rn++(En.dF 10 (k-i)++Px.pb px)).map fO⟩) acZ q q0;have S:=S.tu;refine adr S 1 [] [(3,v56)] fun S=>agR<|fP _ _<|ahi<|adr S 2 [] [(4,.i k)] fun S=>agR ?_;have S:=S.nD 2;obtain⟨R,Y32⟩:=R.dQ S (ai2 2);show ∃i',_∧_;exact⟨(k,v56,(Rn++[(k-i,px)])),⟨hE.step hi hx hlt hkl hall hend,R.as (show [(⟨5,1,v56,(Px.rb Rn++(En.dF 10 (k-i)++Px.pb px)).length,(Px.rb Rn++(En.dF 10 (k-i)++Px.pb px)).map fO⟩:Sx.Row)]=[⟨5,1,v56,(Px.rb (Rn++[(k-i,px)])).length,(Px.rb (Rn++[(k-i,px)])).map fO⟩] by rw[Px.Nl]),S.sn⟩,by show _-_<_-_; omega⟩
  refine ahc ?_;refine ahJ (ι:=Nat) (fun p a' w'=>((i≤p∧p≤L.length)∧∀(j:Nat) (hj:j<L.length),i≤j→j<p→L[j]=px)∧Sx.Rw w w' [] [⟨5,1,.slice va (Px.rb Rn).length vc,(Px.rb Rn).length,(Px.rb Rn).map fO⟩]∧Sx.St w a' w' 59 [(0,.slice a L.length cap),(2,.slice none 0 0),(3,.slice va ((Px.rb Rn).length) vc),(4,.i i),(5,.i p)] [] []) (fun p=>L.length-p) (i) ⟨⟨⟨ahh _,by omega⟩,fun j hj h1 h2=>by omega⟩,R,S.sn⟩ ?_;rintro k ac u hI;try dsimp only at hI
  obtain⟨hR,R,S⟩:=hI;have hrk:=hR.1;refine ag9 fun _ kW=>ag9 (fun _ vY=>?_);by_cases afo:k<L.length
  ·have ac0:k<L.length:=by omega
   obtain⟨b37,o38,rfl,y43,ac1,afp,afq⟩:=ahx h (fun _=>rfl) (k) ac0;have S:=S.view0 afp afq;have ac2:i<L.length:=by omega
   obtain⟨y51,ac3,afr,afs⟩:=Vp.PK h (fun _=>rfl) (i) ac2;have S:=S.view0 afr afs;refine ag2 S 15 [.re 15 (.bool ((k:Int)<(L.length:Int))) (.bool true),.idx k L.length,.mem 1 0,.idx i L.length,.mem 0 0,.cmp .eql 74 (.tmp 20) (.tmp 24) (.agg #[.int .u8 (y43.r.toNat:Int),.int .u8 (y43.g.toNat:Int),.int .u8 (y43.b.toNat:Int),.int .u8 (y43.a.toNat:Int)]) (.agg #[.int .u8 (y51.r.toNat:Int),.int .u8 (y51.g.toNat:Int),.int .u8 (y51.b.toNat:Int),.int .u8 (y51.a.toNat:Int)]) (.bool (y43=y51))] [] [(26,.bool (y43=y51))] trivial (hk:=⟨(ahm Value.bool (ah0 (by omega))),ac0,ac2,(Sx.dX (fun _=>Ku y43 y51 _) (by kernel_rfl)),trivial⟩) fun ac u Qu S=>agR (vY _ _ ?_);refine agU S (fun aaR=>?_) (fun aaR=>?_)
   ·refine aha<|kW _ _<|ahc<|ahi<|adr S 3 [.re 28 (.i (IntKind.i64.wrap ((k:Int)+1))) (.i (k+1:Nat))] [(5,.i (k+1:Nat))] (hk:=⟨ag7 (by omega),trivial⟩) fun S=>agR ?_;obtain⟨R,Y54⟩:=R.dQ S (ahQ Qu);show ∃i',_∧_;exact⟨(k+1),⟨⟨⟨by omega,by omega⟩,fun j hj h1 h2=>by
     by_cases e:j=k
     ·subst e; have:=aaR; rw[ac1]; rw[←hx,ac3]; simpa using this
     exact hR.2 j hj h1 (by omega)⟩,R,S.sn⟩,by show _-_<_-_; omega⟩
   refine ahn ?_;obtain⟨R,Y55⟩:=R.dQ S (ahQ Qu);exact J13 k _ _ R hR.1.2 hR.1.1 hR.2 (fun h e=>by rw[ac1]at e; subst e; have:=aaR; rw[←hx,ac3]at this; simp at this) S.sn
  refine ag2 S 15 [.re 15 (.bool ((k:Int)<(L.length:Int))) (.bool false),.dead 17 (.bool false),.dead 18 (.bool false),.dead 19 (.bool false),.dead 20 (.bool false),.dead 21 (.bool false),.dead 22 (.bool false),.dead 23 (.bool false),.dead 24 (.bool false),.dead 25 (.bool false)] [] [(26,.bool false)] trivial (hk:=⟨(ahm Value.bool (ail (by omega))),trivial⟩) fun ac u E56 S=>agR<|vY _ _<|ag5 S<|ahn ?_;obtain⟨R,Y57⟩:=R.dQ S (ahQ E56);exact J13 k _ _ R hR.1.2 hR.1.1 hR.2 (fun h=>absurd h afo) S.sn
 refine ahn<|iI _ _<|agS fun _ Jz=>adr S 2 [] [(2,.slice va ((Px.rb Rn).length) vc)] fun S=>agR<|Jz _ _<|agV S Tryz.results10 ?_;exact⟨_,rfl,by rw[←hE.done (by have:=aht cO; omega)]; exact R.own _ ahZ,S.E⟩
end
section
set_option maxHeartbeats 1600000
set_option maxRecDepth 100000
open Go.RowKit
variable{α:Type}{K:Nat}
def TR(l:List UInt8)(p:Nat)(bad:Bool)(n:Nat):Nat:=if (bad||decide (l.length<p+n))=true then p else p+n
def Gi(l:List UInt8)(p:Nat)(bad:Bool)(n:Nat):Bool:=bad||decide (l.length<p+n)
def Uo(l:List UInt8)(p:Nat)(bad:Bool)(n:Nat):List UInt8:=if (bad||decide (l.length<p+n))=true then List.replicate n 0 else (l.drop p).take n
theorem KP{l:List UInt8}{p n:Nat}{bad:Bool}(h:Gi l p bad n=true):TR l p bad n=p∧Uo l p bad n=List.replicate n 0:=by
 unfold Gi at h; unfold TR Uo; rw[ahf h,ahf h]; exact⟨rfl,rfl⟩
theorem Nq{l:List UInt8}{p n:Nat}{bad:Bool}(h:Gi l p bad n=false):bad=false∧p+n≤l.length∧TR l p bad n=p+n∧Uo l p bad n=(l.drop p).take n:=by
 unfold Gi at h; unfold TR Uo; rw[h];simp only[ah5,aiu]at h;exact⟨h.1,by omega,by simp,by simp⟩
theorem Xv{l:List UInt8}{p n:Nat}{bad:Bool}:(Uo l p bad n).length=n:=by
 cases h:Gi l p bad n
 ·obtain⟨-,h1,-,h2⟩:=Nq h; rw[h2]; simp; omega
 rw[(KP h).2]; simp
theorem Xw{l:List UInt8}{p:Nat}{bad:Bool}:∃q:aO,Uo l p bad 4=Px.pb q:=by
 have h:=@Xv l p 4 bad;match h1:Uo l p bad 4,h with
 | [a,b,c,d],_=>exact⟨⟨a,b,c,d⟩,rfl⟩
theorem kQ{b b2:Nat}{w u u':World}(h:Ch b w u)(c:Ch b2 u u')(hb:b2=b∨w.heap.size≤b2):Ch b w u':=by
 rcases hb with rfl | hb
 ·exact h.trans c
 exact⟨c.os.trans h.os,c.tape.trans h.tape,c.output.trans h.output,ahC h.size c.size,fun i hi hn=>(c.block i (ahG hi h.size) (fun e=>by simp only[ahd]at e; omega)).trans (h.block i hi hn)⟩
theorem Ie{w:World}{a:Option Addr}{l:List UInt8}{c p n:Nat}(h:iT w (.slice a l.length c) l)(hp:p+n≤l.length)(hn:0<n):l.length≤c∧∃bk o,a=some ⟨bk,o,none⟩∧bk<w.heap.size∧w.rangeAt bk (o+p) (((l.drop p).take n).map fO):=by
 obtain⟨a',cap,hv,hm,hh⟩:=h;simp only[ahE,true_and]at hv;obtain⟨rfl,rfl⟩:=hv;rcases hh with ⟨rfl,-⟩ | ⟨bk,o,rfl,hb,hl,hc⟩
 ·simp only[List.length_nil]at hp; omega
 refine⟨hl,bk,o,rfl,hb,fun j v hj=>?_⟩;have hjn:j<n:=by
  have:=(List.getElem?_eq_some_iff.1 hj).1;simp only[ai8,aiS,List.length_drop]at this; omega
 have h1:=hc (p+j) (by omega) 0 (by omega);rw[List.getElem?_map,List.getElem?_take_of_lt hjn,List.getElem?_drop,List.getElem?_eq_getElem (by omega)]at hj;obtain rfl:=ahl hj;rw[show o+p+j=o+(p+j)*1+0 by omega,h1]; rfl
theorem Ur{w0:World}{a:Option Addr}{l:List UInt8}{c p:Nat}(h:iT w0 (.slice a l.length c) l)(hp:p+4≤l.length) :
  ∃bk o,(.slice (Sx.KL a p c 1) (p+4-p) (c-p):Value) = .slice (some ⟨bk,o,none⟩) 4 (c-p)∧bk<w0.heap.size∧w0.rangeAt bk o (((l.drop p).take 4).map fO):=by
 obtain⟨hl,bk,o,rfl,hb,hr⟩:=Ie h hp (by omega);refine⟨bk,o+p*1,?_,hb,by rw[Nat.mul_one]; exact hr⟩;unfold Sx.KL;rw[ahe (by omega),Nat.add_sub_cancel_left]; simp[Addr.add]
theorem P6{w0 w:World}{b p cap:Nat}{a:Option Addr}{bad pk:Bool}{l:List UInt8}(hE:Ext w0 w)(hx:Bx w b #[.slice a l.length cap,.i p,.bool bad,.bool pk])(hb:w0.heap.size≤b)(h:iT w0 (.slice a l.length cap) l)(hp:p≤l.length) :
  Calls Tryz.prog 70 #[.pointer (some ⟨b,0,none⟩),.i 4] w fun e w'=>∃bk o c,e = .returned (.slice (some ⟨bk,o,none⟩) 4 c)∧w'.rangeAt bk o ((Uo l p bad 4).map fO)∧bk<w'.heap.size∧(bk<w0.heap.size∨w.heap.size≤bk)∧Ext w0 w'∧Ch b w w'∧Bx w' b #[.slice a l.length cap,.i (TR l p bad 4:Nat),.bool (Gi l p bad 4),.bool pk]:=by
 have hml:l.length≤9223372036854775807:=h.len;refine Sx.rG Tryz.func70 Tryz.ntmps70 hE hx hb fun ac S=>agS fun _ aX=>adr S 1 [] [(4,.slice none 0 0)] fun S=>agR<|aX _ _<|ag9 fun _ fH=>ag9 fun _ jK=>ag2 S 22 [.mem 0 2,.mem 0 0,.mem 0 1,.re 24 (.i (IntKind.i64.wrap ((l.length:Int)-(p:Int)))) (.i (l.length-p:Nat))] [] [(26,.bool ((bad||false)||(decide (((l.length-p:Nat):Int)<4))))] trivial (hk:=⟨(Sx.iL (by omega) (by omega)),trivial⟩) fun ac u E4 S=>agR (jK _ _ ?_);refine agU S (fun hc5=>?_) (fun hc5=>?_)
 ·refine agS fun _ iI=>adr S 3 [] [(29,.pointer (some ⟨b,2,none⟩))] fun S=>ahb S 0 (off:=2) (v := .bool true) rfl (fun u C7 S=>?_);have Fs8:=(kQ ((Ch.trans (Ch.refl b w) (Ch.fV E4))) C7 (by first | exact .inl rfl | exact .inr (by omega)));refine agR<|iI _ _<|agS (fun _ iP=>?_);have hws:=(Fs8).size;refine adr S 3 [] [(32,.i 4)] fun S=>Sx.news S 33 4 [.int .u8 0,.int .u8 0,.int .u8 0,.int .u8 0] fun ac u b10 Ef V3 S=>adr S 1 [] [(4,.slice (some ⟨b10,0,none⟩) 4 4)] fun S=>agR<|iP _ _<|ahj ?_;have hbad:Gi l p bad 4=true:=by unfold Gi; cases bad; (simp at hc5 ⊢; omega); rfl
  refine ag3 S Tryz.results70 ?_;exact⟨_,_,_,rfl,by rw[(KP hbad).2]; exact(S.bx 0).range 0 4 rfl,(S.bx 0).1,.inr (by have:=V3; omega),S.E,((Ch.trans Fs8 (Ch.fV Ef))),by rw[(KP hbad).1,hbad]; exact S.bx 1⟩
 have hok:Gi l p bad 4=false:=by unfold Gi; cases bad; (simp at hc5 ⊢; omega); simp at hc5
 have hlen:=(Nq hok).2.1;have hcap:=Sx.Bj h;refine aha<|fH _ _<|agS fun _ gX=>adr S 8 [.mem 0 1,.re 39 (.i (IntKind.i64.wrap ((p:Int)+4))) (.i (p+4:Nat))] [(39,.i (p+4:Nat)),(41,.pointer (some ⟨b,1,none⟩))] (hk:=⟨(Sx.iL (by omega) (by omega)),trivial⟩) fun S=>ahb S 0 (off:=1) (v := .i (p+4:Nat)) rfl (fun u C14 S=>?_);have EK:=(kQ ((Ch.trans (Ch.refl b w) (Ch.fV E4))) C14 (by first | exact .inl rfl | exact .inr (by omega)));refine agR<|gX _ _<|ag9 fun _ kG=>ag2 S 15 [.mem 0 0,.mem 0 1,.re 51 (.i (IntKind.i64.wrap (((p+4:Nat):Int)-4))) (.i p),.mem 0 1,.slc p (p+4) cap cap] [] [(56,.slice (Sx.KL a p cap 1) (p+4-p) (cap-p))] trivial (hk:=⟨(Sx.iL (by omega) (by omega)),(by omega),trivial⟩) fun ac u yI S=>adr S 1 [] [(4,.slice (Sx.KL a p cap 1) (p+4-p) (cap-p))] fun S=>agR<|kG _ _<|ahj ?_;obtain⟨bk,o,hv,hk1,hr⟩:=Ur h hlen;have ho:=Nq hok;refine ag3 S Tryz.results70 ?_;exact⟨bk,o,cap-p,ahm Ending.returned hv,by rw[ho.2.2.2]; exact Vp.pF hr hk1 S.E,ahG hk1 S.E.size,.inl hk1,S.E,((Ch.trans EK (Ch.fV yI))),by rw[ho.2.2.1,hok]; have:=S.bx 0; rw[ho.1]at this; exact this⟩
theorem yQ{w0 w:World}{b p cap:Nat}{a:Option Addr}{bad pk:Bool}{l:List UInt8}(hE:Ext w0 w)(hx:Bx w b #[.slice a l.length cap,.i p,.bool bad,.bool pk])(hb:w0.heap.size≤b)(h:iT w0 (.slice a l.length cap) l)(hp:p≤l.length) :
  Calls Tryz.prog 38 #[.pointer (some ⟨b,0,none⟩)] w fun e w'=>∃q:aO,e = .returned (.agg q.cells.toArray)∧Px.pb q=Uo l p bad 4∧Ext w0 w'∧Ch b w w'∧Bx w' b #[.slice a l.length cap,.i (TR l p bad 4:Nat),.bool (Gi l p bad 4),.bool pk]:=by
 skip;refine Sx.rG Tryz.func38 Tryz.ntmps38 hE hx hb fun ac S=>agS fun _ aX=>agT S 2 [.int .u8 0,.int .u8 0,.int .u8 0,.int .u8 0] fun ac u b2 E3 hb4 S=>agR<|aX _ _<|agS fun _ dM=>adr S 1 [] [(4,.pointer (some ⟨b,0,none⟩))] (fun S=>?_);have hz0:=S.bx 0;have hz1:=S.bx 1;have hz2:=S.old 0;refine Sx.kU S 1 [.slice a l.length cap,.i (TR l p bad 4:Nat),.bool (Gi l p bad 4),.bool pk] (some 5) rfl (P6 S.E (S.bx 1) (S.old 1) h hp) ?_;rintro e u ⟨bk,ok,ck,rfl,hr,hlt,hor,hE6,hC6,hX6⟩;refine⟨_,rfl,hE6,hC6,hX6,fun ac S=>?_⟩;have Fs7:=(kQ ((Ch.trans (Ch.refl b w) (Ch.fV E3))) hC6 (by first | exact .inl rfl | exact .inr (by omega)));obtain⟨q,hq⟩:=@Xw l p bad;rw[hq]at hr;have S:=S.view (cs:=q.cells) hlt hr (fun p hp=>by rcases ahw.1 hp with rfl | hp; (have:=hz0.1; rcases hor with h | h<;>(intro e; simp only at e; omega)); obtain rfl:=aiK.1 hp; (have:=hz1.1; rcases hor with h | h<;>(intro e; simp only at e; omega)));refine adr S 1 [] [(3,.slice (some ⟨bk,ok,none⟩) 4 ck)] fun S=>agR<|dM _ _<|ag9 fun _ dU=>ag2 S 13 [.idx 0 4,.mem 2 0,.idx 1 4,.mem 2 1,.idx 2 4,.mem 2 2,.idx 3 4,.mem 2 3] [] [(18,.agg q.cells.toArray)] trivial (hk:=⟨(by decide),(by decide),(by decide),(by decide),trivial⟩) fun ac u E9 S=>agW S 0 (off:=0) (cs:=q.cells) rfl (fun u C10 S=>?_);have RZ:=(kQ ((Ch.trans Fs7 (Ch.fV E9))) C10 (by first | exact .inl rfl | exact .inr (by omega)));refine agR<|dU _ _<|Sx.Cc S 0 Tryz.results38 rfl (v := .agg q.cells.toArray) ?_;exact⟨q,rfl,hq.symm,S.E,RZ,S.bx 1⟩
theorem H9{w0 w:World}{b p cap:Nat}{a:Option Addr}{bad pk:Bool}{l:List UInt8}(hE:Ext w0 w)(hx:Bx w b #[.slice a l.length cap,.i p,.bool bad,.bool pk])(hb:w0.heap.size≤b)(h:iT w0 (.slice a l.length cap) l)(hp:p≤l.length) :
  Calls Tryz.prog 21 #[.pointer (some ⟨b,0,none⟩)] w fun e w'=>∃q:aO,e = .returned (.agg q.cells.toArray)∧Px.pb q=Uo l p bad 4∧Ext w0 w'∧Ch b w w'∧Bx w' b #[.slice a l.length cap,.i (TR l p bad 4:Nat),.bool (Gi l p bad 4),.bool pk]:=by
 skip;refine Sx.rG Tryz.func21 Tryz.ntmps21 hE hx hb fun ac S=>agS fun _ aX=>agT S 2 [.int .u8 0,.int .u8 0,.int .u8 0,.int .u8 0] fun ac u b2 E3 hb4 S=>agR<|aX _ _<|agS fun _ dM=>adr S 1 [] [(3,.pointer (some ⟨b,0,none⟩))] fun S=>Sx.kU S 1 [.slice a l.length cap,.i (TR l p bad 4:Nat),.bool (Gi l p bad 4),.bool pk] (some 4) rfl (yQ S.E (S.bx 1) (S.old 1) h hp) ?_;rintro e u ⟨q,rfl,hq,hE6,hC6,hX6⟩;refine⟨_,rfl,hE6,hC6,hX6,fun ac S=>?_⟩;have Fs7:=(kQ ((Ch.trans (Ch.refl b w) (Ch.fV E3))) hC6 (by first | exact .inl rfl | exact .inr (by omega)));refine agW S 0 (off:=0) (cs:=q.cells) rfl (fun u C8 S=>?_);have YW:=(kQ Fs7 C8 (by first | exact .inl rfl | exact .inr (by omega)));refine agR<|dM _ _<|Sx.Cc S 0 Tryz.results21 rfl (v := .agg q.cells.toArray) ?_;exact⟨q,rfl,hq,S.E,YW,S.bx 1⟩
end
end Go.Proofs.YtiafijffnejhoaaGreatDoor
