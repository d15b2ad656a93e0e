/- A region that draws its order -/
import Derived.Test.YtodpgjjgaddkeaaGreatDoorPk10
set_option maxHeartbeats 9999999
open Go renaming World->Á,Value->À,Calls->Ä,Oper->Ì,wpList->Ð,wpAny->ď
open Go.Proofs.Tryz
set_option maxRecDepth 100000
set_option linter.unusedVariables false
set_option linter.unusedSimpArgs false
section
namespace Go.Sx
open Go.Proofs.Pv Go.RowKit Go.Rel Na Go.Sx
section
variable{P:Program}{os:List Ì}{Q:Exit->Act->Á->Prop}{w0:Á}{a:Act}{w:Á}{n:Nat}{l:List (Nat×À)}{bl:List (Nat×List À)}{vs:List eU}
variable{f i b:Nat}{ops:Array Ì}{o:Ì}{A:List À}{R:Ending->Á->Prop}
abbrev agY{K:Act->Á->Prop}(ho:ops[i]?=some o)(h:Ð P ops (yI λ_ a w=>K a w) [o] a w):wpOp P ops Q i K a w:=by
 unfold wpOp;rw[ho];unfold Ð at h;simp only;split at h
 .rename_i hw;rw[Ï hw];rcases h with h | ⟨_,h⟩
  .left;unfold Oper.wp at *;generalize (execOp a.eval _).run P w=r at *;cases r with
   | ok n w' =>
    cases n<;>simp only[Oper.upon]at h |-;case value u=>exact h
    case skip=>exact h
    case defer d=>exact h
    case enter f args =>
     refine Calls.mono h λe w'' he=>?_;cases e with
     | returned u=>exact he
     | panicked c=>exact he.elim
     | outgrown=>exact(nX he).elim
    case row row args=>exact Rows.mono h λu w'' he=>he
   | halt x w' =>
    cases x<;>simp only[Oper.upon]at h |-;case panic u=>exact h.elim
  exact(nX h).elim
 rename_i hw;rw[É hw];exact h
def one(os:List Ì)(i:Nat):List Ì:=(os.drop i).take 1
abbrev acU(h:os[i]?=some o):one os i=[o]:=by
 have hi:=(List.getElem?_eq_some_iff.1 h).1;unfold one;rw[Ķ hi,List.take_succ_cons,List.take_zero];rw[List.getElem?_eq_getElem hi]at h;rw[Ü h]
abbrev acV (P:Program)(Q:Exit->Act->Á->Prop)(os:List Ì)(f:Nat)(L:Array Bool)(a:Act)(w:Á)(i:Nat):Prop:=Ð P os.toArray (yI λ_ a w=>ď P .any os.toArray Q f (L.setIfInBounds i true) a w) (one os i) a w
abbrev Yr{L:Array Bool}{rs:List Nat}(hne:rs≠[])(h:∀i∈rs,acV P Q os f L a w i)(hr:Region.ready .any os.toArray L=rs):ď P .any os.toArray Q (f+1) L a w:=by
 refine⟨λh0=>absurd (hr.symm.trans h0) hne,λi hi=>?_⟩;obtain⟨_,o,ho,_⟩:=mem_ready.1 hi;rw[hr]at hi;refine agY ho ?_;have:=h i hi;unfold acV at this;rwa [acU (by simpa using ho)]at this
abbrev agZ{L:Array Bool}(i:Nat)(h:acV P Q os f L a w i)(hr:Region.ready .any os.toArray L=[i]:=by kernel_rfl):ď P .any os.toArray Q (f+1) L a w:=Yr Y (λj hj=>by obtain rfl:=Ā.1 hj; exact h) hr
abbrev amU{L:Array Bool}(i j:Nat)(h:acV P Q os f L a w i)(k:acV P Q os f L a w j)(hr:Region.ready .any os.toArray L=[i,j]:=by kernel_rfl):ď P .any os.toArray Q (f+1) L a w:=Yr Y (λx hx=>by
 rcases ç.1 hx with rfl | hx
 .exact h
 obtain rfl:=Ā.1 hx; exact k) hr
abbrev QY{Q':Exit->Act->Á->Prop}{m:List Ì}(h:Q' .normal a w)(hm:m.isEmpty=true:=by kernel_rfl):Ð P ops (yI Q') m a w:=by
 rw[List.isEmpty_iff.1 hm]; exact h
abbrev Vm{L:Array Bool}(m:Nat)(h:Ð P os.toArray Q (os.drop m) a w)(hs:(Region.seqB .any os.toArray f m L&&decide (os.length=m+f))=true:=by kernel_rfl):ď P .any os.toArray Q f L a w:=by
 simp only[æ,Ý]at hs;have e:(os.drop m).length=f:=by rw[Ŵ]; omega
 subst e;exact wpAny_of_seq (os.drop m) m L a w (λj=>by simp[List.getElem?_drop]) hs.1 h
abbrev ordered(S:St w0 a w n l bl vs){id:Nat}(f:Nat)(next:∀a' w',Ext w w'->St w0 a' w' n l bl vs->ď P .any os.toArray Q f (Array.replicate f false) a' w')(hf:(os.length==f)=true:=by kernel_rfl)(hmo:P.follows .mixedOrders=true:=by kernel_rfl):(Code.region id os.toArray true).wp P Q a w:=by
 have hE:Ext w { w with drawn:=w.drawn+1 }:=below_drewN (ù _ _) 1;have key:=next a _ hE (S.grow hE);obtain rfl:=eq_of_beq hf;exact š hmo (by simpa using key)
abbrev LQ(S:St w0 a w n l ((b,A)::bl) vs){wc:Á}{f:FuncId}{args:Array À}(d:Option Nat)(h0:Ext w0 wc)(hcw:Ext wc w)(hlt:∀p∈bl,p.1<wc.heap.size)(hc:Ä P f args w R)
  (next:∀e w',R e w'->∃v A',e = .R v∧Ext wc w'∧Bx w' b (List.toArray A')∧∀a',St w0 a' w' n (zo l d v) ((b,A')::bl) []->Ð P ops Q (os.drop 1) a' w')
  (hx:callOf P os l=some (f,args,d):=by kernel_rfl) (hd:uN n d=true:=by rfl):Ð P ops Q os a w:=by
 cases os with
 | nil=>cases hx
 | cons o os =>
  unfold callOf at hx;simp only at hx;split at hx
  .rename_i f' args' hg hav hev;simp only[Ò,Ô]at hx;obtain⟨rfl,rfl,rfl⟩:=hx;simp only[Ĕ]at hav;have hrun:(execOp a.eval o).run P w = .ok (.enter f' args') w:=kH (Std.act a) (gG (bU S.s) o) (p:=[]) I hav.1 (by simpa using hav.2) hev;unfold Ð;rw[Ï (by simp[Region.wanted,hg])];left;unfold Oper.wp;rw[hrun];simp only[Oper.upon];refine hc.mono λe w' hR=>?_;obtain⟨v,A',rfl,hE,hX,hn⟩:=next e w' hR;refine hn _ ⟨uf S.s hd v,Ã h0 hE,λp hp=>?_,S.apart,λm hm=>(by cases hm)⟩;rcases ç.1 hp with rfl | hp
   .exact⟨hX,(S.own _ ë).2⟩
   have h1:=S.own p (Ŋ _ hp);have hl:=hlt p hp;exact⟨⟨ā hl hE.size,λi=>(hE.cell (p:=⟨p.1,i,none⟩) hl).trans ((hcw.cell (p:=⟨p.1,i,none⟩) hl).symm.trans (h1.1.2.1 i)),λi=>(hE.frozen (p:=⟨p.1,i,none⟩) hl).trans ((hcw.frozen (p:=⟨p.1,i,none⟩) hl).symm.trans (h1.1.2.2 i))⟩,h1.2⟩
  cases hx
abbrev ajJ(S:St w0 a w n l bl vs)(k:Nat){fn:Func}{r s t:Nat}{ty:TypeId}{v u z:À}(hr:fn.results = #[.cell r ty,.tmp s,.tmp t])(hk:bl[k]?=some (b,A))(h:R (.R (.tuple #[v,u,z])) w)
  (hv:Vp.ev l (.tmp r)=some (.q b 0):=by kernel_rfl) (hu:Vp.ev l (.tmp s)=some u:=by rfl) (hz:Vp.ev l (.tmp t)=some z:=by rfl) (hl:Qm P ty A=some v:=by kernel_rfl):bodyPost P fn R .ret a w:=by
 refine⟨S.s.defers,_,?_,h⟩;have h1:=S.s.ev hv;have h3:=S.s.ev hu;have h4:=S.s.ev hz;have h2:=S.var hk hl;unfold results;rw[hr];simp only[Act.eval,Array.getD_eq_getD_getElem?]at h1 h3 h4;simp[h1,h3,h4,asAddr,h2]
end
end Go.Sx
end
namespace Go.Proofs.Pv
section
open Go.RowKit Na Go.Sx
variable{α:Type}
abbrev _root_.Go.Sx.Vo{P:Program}{w0 w:Á}{a:Act}{n:Nat}{l:List (Nat×À)}{bl:List (Nat×List À)}{vs:List Sx.eU}(S:Sx.St w0 a w n l bl vs){fn:Func}{R:Ending->Á->Prop}(i j:Nat){r s t b c:Nat}{ty:TypeId}{A B:List À}{u v x:À}(hr:fn.results = #[.cell r ty,.cell s ty,.tmp t])(hi:bl[i]?=some (b,A))(hj:bl[j]?=some (c,B))(h:R (.R (.tuple #[u,v,x])) w)
  (h1:Vp.ev l (.tmp r)=some (.q b 0):=by kernel_rfl) (h2:Vp.ev l (.tmp s)=some (.q c 0):=by kernel_rfl) (h3:Vp.ev l (.tmp t)=some x:=by kernel_rfl) (l1:Sx.Qm P ty A=some u:=by kernel_rfl) (l2:Sx.Qm P ty B=some v:=by kernel_rfl):bodyPost P fn R .ret a w:=by
 refine⟨S.s.defers,_,?_,h⟩;have e1:=S.s.ev h1;have e2:=S.s.ev h2;have e3:=S.s.ev h3;unfold results;rw[hr];simp only[Act.eval,Array.getD_eq_getD_getElem?]at e1 e2 e3;simp[e1,e2,e3,asAddr,S.var hi l1,S.var hj l2]
variable{s t:À}{base:Nat}{b neg:Bool}{q:Bool×Nat×Nat}
abbrev QZ{m:List UInt32}{w:Á}(h:aF w s m)(hm:0<Pq m)(hl:m.length<=100000000) :
  Ä prog 173 #[.agg #[.z,s]] w (RF w (.i 1)):=by
 have hc:=pG false _ m w h hl;rw[show qc false (Pq m)=1 from by unfold qc; rw[É Z]; rfl]at hc;exact hc
abbrev NS{w:Á}(h:aF w s (LZ 0)) :
  Ä prog 173 #[.agg #[.b b,s]] w (RF w (.i 0)):=by
 have hc:=pG b _ _ w h (by simp[jF]);rw[L6,show qc b 0=0 from rfl]at hc;exact hc
abbrev mW{w:Á}{n:Nat}(h:aK base w (.agg #[.b b,s]) neg n):aF w s (LZ n):=by
 obtain⟨t,e,hs,_⟩:=h;simp only[Ŧ,ť,ģ,and_true]at e;obtain⟨-,rfl⟩:=e;exact hs
abbrev aK.flag{base:Nat}{w:Á}{v:À}{n n':Bool}{a:Nat}(h:aK base w v n a)(e:n=n'):aK base w v n' a:=e▸h
abbrev Q5{w:Á}{c n1 n2:Bool}{x y:Nat}(h:aK base w (.agg #[.b b,s]) n1 x)(k:aK base w (.agg #[.b c,t]) n2 y)(e1:n1=neg)(e2:n2=false):au base w (.agg #[.b b,s,.b c,t]) neg x y:=by
 obtain⟨s',e,hs,fs⟩:=h;obtain⟨t',e',ht,ft⟩:=k;simp only[Ŧ,ť,ģ,Value.bool.injEq,and_true]at e e';obtain⟨rfl,rfl⟩:=e;obtain⟨rfl,rfl⟩:=e';exact⟨_,_,by rw[e1,e2],hs,ht,fs,ft⟩
abbrev acW{n:Bool}{b:Nat}(hb:0<b):decide (qc n b<0)=n:=by
 unfold qc;rw[É Z];cases n<;>simp
abbrev Q7(n1 n2:Bool)(a b:Nat)(hb:0<b):kZ n1 n2 a b=((if n2 then !n1&&decide (0<a)else n1)&&decide (0<a/Nat.gcd a b)):=by
 unfold kZ;rcases ę a with h | h
 .subst h; simp
 congr 1;unfold qc;rw[É (show ¬a=0 by omega),É (show ¬b=0 by omega)];cases n1<;>cases n2<;>simp[h]
abbrev lN(n1:Bool)(s t:À)(l m:List UInt32)(w:Á)(h1:aF w s l)(h2:aF w t m)(hm:0<Pq m)(hdvd:Pq l%Pq m=0)(hl1:l.length<=5000000)(hl2:m.length<=5000000) :
  Ä prog 222 #[.agg #[.b n1,s],.agg #[.z,t]] w λe w'=>∃x y,e = .R (.tuple #[x,y,.i 0]) ∧
   aK w.heap.size w' x (n1&&decide (0<Pq l/Pq m)) (Pq l/Pq m)∧aK w.heap.size w' y false 0∧Ext w w':=by
 obtain⟨a1,c1,rfl⟩:=h1.shape;obtain⟨a2,c2,rfl⟩:=h2.shape;refine Ŗ func222 ntmps222 λac S=>Î λ_ ig=>ī S 2 [.b n1,.s a1 l.length c1] λac u b2 E3 hb4 S=>ī S 3 [.z,.s a2 m.length c2] λac u b5 E6 hb7 S=>ī S 4 [.z,.sn] λac u b8 E9 tX S=>ī S 5 [.z,.sn] λac u b11 uM Z8 S=>Ç S 1 [] [(6,.i 0)] λS=>Ê<|ig _ _<|ß λ_ vZ=>Î λ_ NT=>Ç S 1 [.M 2 0] [(12,.agg #[.z,.s a2 m.length c2])] λS=>zJ S 13 (QZ (h2.below S.E) hm Z) λac u LU S=>Ç S 1 [] [(14,.z)] λS=>Ê<|NT _ _<|zL S<|ÿ<|vZ _ _<|Î λ_ NU=>Ç S 4 [.M 3 1,.M 2 1] [(19,.s a1 l.length c1),(21,.s a2 m.length c2)] λS=>nZ S (some 22) (zH _ _ l m _ (h1.below S.E) (h2.below S.E) hm Z Z) ?_;rintro e u ⟨q,r,rfl,hq,hr,BG⟩;have hq:aF _ _ _:=aS hq;have hr:aF _ _ _:=aS hr;rw[hdvd]at hr;obtain⟨aq,cq,rfl⟩:=hq.shape;obtain⟨ar,cr,rfl⟩:=hr.shape;refine⟨_,I,BG,λac S=>?_⟩;refine Ç S 7 [] [(7,.s aq (LZ (Pq l/Pq m)).length cq),(8,.s ar (LZ 0).length cr)] λS=>Ê<|NU _ _<|Î λ_ acX=>Ç S 6 [.M 3 0,.M 2 0] [(30,.b (!(n1==false))),(31,.s aq (LZ (Pq l/Pq m)).length cq)] λS=>nZ S (some 32) (jS (!(n1==false)) hq (by have:=fF (ϔ (Pq l) (Pq m)); have:=bP l; omega)) ?_;rintro e u ⟨x,rfl,fx,DK⟩;obtain⟨Yt,Yu,rfl⟩:=fx.shape;have amV:=S.E.size;refine⟨_,I,DK,λac S=>?_⟩;refine ī S 10 [.z,.sn] λac u b21 UZ NV S=>Ĭ S 0 (off:=0) (cs:=[.b ((!(n1==false))&&decide (0<(Pq l/Pq m))),.s Yt (LZ (Pq l/Pq m)).length Yu]) I (λu LV S=>?_);have FD:=Ö (Ã DK UZ) LV (by have:=DK.size; omega);have Qn:=Ö (Ã DK UZ) LV (by have:=DK.size; omega);have ϰ:=Ö UZ LV Z;refine Ê<|acX _ _<|Î λ_ acY=>Ç S 3 [.M 4 0] [(34,.b n1),(35,.s ar (LZ 0).length cr)] λS=>nZ S (some 36) (jS n1 (hr.below Qn) (by simp[jF])) ?_;rintro e u ⟨x,rfl,fy,BF⟩;obtain⟨Vq,Vr,rfl⟩:=fy.shape;have amW:=S.E.size;refine⟨_,I,BF,λac S=>?_⟩;refine ī S 11 [.z,.sn] λac u b30 DJ Q8 S=>Ĭ S 0 (off:=0) (cs:=[.b (n1&&decide (0<0)),.s Vq (LZ 0).length Vr]) I (λu Yv S=>?_);have Yw:=Ö (Ã FD (Ã BF DJ)) Yv (by have:=(Ã FD BF).size; omega);have Qo:=Ö (Ã Qn (Ã BF DJ)) Yv (by have:=(Ã Qn BF).size; omega);have Q9:=Ö (Ã ϰ (Ã BF DJ)) Yv (by have:=(Ã ϰ BF).size; omega);have H8:=Ö DJ Yv Z;refine Ê<|acY _ _<|ß λ_ Vs=>Î λ_ acZ=>ac0 S 10 [.M 5 0,.M 4 0,.M 0 0] [(_,_,(!(n1==false)),.i 0)] [(46,.b ((!(n1==false))&&false))] ⟨λu hC g=>NS (b:=n1&&decide (0<0)) (mW (fy.ext (Ã H8 hC))),G⟩ λac u Ż S=>Ê (acZ _ _ ?_);refine Č S (λKE=>?_) (λKE=>?_)
 .simp at KE
 refine ÿ<|Vs _ _<|ß λ_ Vt=>Sx.ordered S 5 λac u ż S=>Sx.amU 0 1 ?_ ?_
 .refine Ç S 1 [.M 1 0] [(53,.agg #[.b ((!(n1==false))&&decide (0<(Pq l/Pq m))),.s Yt (LZ (Pq l/Pq m)).length Yu])] λS=>Sx.QY<|Sx.amU 1 2 ?_ ?_
  .refine Ç S 1 [.M 0 0] [(54,.agg #[.b (n1&&decide (0<0)),.s Vq (LZ 0).length Vr])] λS=>Sx.QY<|Sx.agZ 2 ?_;have X45:=S.bx 3;refine Ĭ S 3 (off:=0) (cs:=[.b ((!(n1==false))&&decide (0<(Pq l/Pq m))),.s Yt (LZ (Pq l/Pq m)).length Yu]) I (λu C44 S=>?_);have ajK:=aK.dG (fx.ext (Ã Q9 (Ã Ż ż))) C44 X45;have Z9:=aK.dG (fy.ext (Ã H8 (Ã Ż ż))) C44 X45;refine Sx.QY<|Sx.Vm 3 ?_;have X49:=S.bx 2;refine Ĭ S 2 (off:=0) (cs:=[.b (n1&&decide (0<0)),.s Vq (LZ 0).length Vr]) I (λu Ž S=>?_);have Vu:=aK.dG ajK Ž X49;have Vw:=aK.dG Z9 Ž X49;refine Ç S 1 [] [(6,.i 0)] λS=>Ê<|Vt _ _<|Ġ ?_;refine Sx.Vo S 3 2 results222 I I ⟨_,_,I,(aK.mono Vu Z).flag Y,(aK.mono Vw Z).flag Y,S.E⟩
  have X53:=S.bx 3;refine Ĭ S 3 (off:=0) (cs:=[.b ((!(n1==false))&&decide (0<(Pq l/Pq m))),.s Yt (LZ (Pq l/Pq m)).length Yu]) I (λu C52 S=>?_);have ajL:=aK.dG (fx.ext (Ã Q9 (Ã Ż ż))) C52 X53;have ajM:=aK.dG (fy.ext (Ã H8 (Ã Ż ż))) C52 X53;refine Sx.QY<|Sx.agZ 1<|Ç S 1 [.M 0 0] [(54,.agg #[.b (n1&&decide (0<0)),.s Vq (LZ 0).length Vr])] λS=>Sx.QY<|Sx.Vm 3 ?_;have X57:=S.bx 2;refine Ĭ S 2 (off:=0) (cs:=[.b (n1&&decide (0<0)),.s Vq (LZ 0).length Vr]) I (λu ϛ S=>?_);have ac1:=aK.dG ajL ϛ X57;have FI:=aK.dG ajM ϛ X57;refine Ç S 1 [] [(6,.i 0)] λS=>Ê<|Vt _ _<|Ġ ?_;refine Sx.Vo S 3 2 results222 I I ⟨_,_,I,(aK.mono ac1 Z).flag Y,(aK.mono FI Z).flag Y,S.E⟩
 refine Ç S 1 [.M 0 0] [(54,.agg #[.b (n1&&decide (0<0)),.s Vq (LZ 0).length Vr])] λS=>Sx.QY<|Sx.agZ 0<|Ç S 1 [.M 1 0] [(53,.agg #[.b ((!(n1==false))&&decide (0<(Pq l/Pq m))),.s Yt (LZ (Pq l/Pq m)).length Yu])] λS=>Sx.QY<|Sx.agZ 2 ?_;have X61:=S.bx 3;refine Ĭ S 3 (off:=0) (cs:=[.b ((!(n1==false))&&decide (0<(Pq l/Pq m))),.s Yt (LZ (Pq l/Pq m)).length Yu]) I (λu ϱ S=>?_);have KF:=aK.dG (fx.ext (Ã Q9 (Ã Ż ż))) ϱ X61;have ac2:=aK.dG (fy.ext (Ã H8 (Ã Ż ż))) ϱ X61;refine Sx.QY<|Sx.Vm 3 ?_;have X65:=S.bx 2;refine Ĭ S 2 (off:=0) (cs:=[.b (n1&&decide (0<0)),.s Vq (LZ 0).length Vr]) I (λu C64 S=>?_);have ajN:=aK.dG KF C64 X65;have ac3:=aK.dG ac2 C64 X65;refine Ç S 1 [] [(6,.i 0)] λS=>Ê<|Vt _ _<|Ġ ?_;refine Sx.Vo S 3 2 results222 I I ⟨_,_,I,(aK.mono ajN Z).flag Y,(aK.mono ac3 Z).flag Y,S.E⟩
abbrev zO(n1 n2:Bool)(s1 s2:À)(l m:List UInt32)(w:Á)(h1:aF w s1 l)(h2:aF w s2 m)(hm:0<Pq m)(hl1:l.length<=5000000)(hl2:m.length<=5000000) :
  Ä prog 174 #[.agg #[.b n1,s1],.agg #[.b n2,s2]] w λe w'=>∃x,e = .R x ∧
   au w.heap.size w' x (kZ n1 n2 (Pq l) (Pq m)) (Pq l/Nat.gcd (Pq l) (Pq m)) (Pq m/Nat.gcd (Pq l) (Pq m))∧Ext w w':=by
 obtain⟨a1,c1,rfl⟩:=h1.shape;obtain⟨a2,c2,rfl⟩:=h2.shape;have hG:0<(Nat.gcd (Pq l) (Pq m)):=ay8 _ hm;have hGl:(LZ (Nat.gcd (Pq l) (Pq m))).length<=5000000:=by have:=fF (Nat.le_of_dvd hm (ayM (Pq l) (Pq m))); have:=bP m; omega
 refine Ë func174 ntmps174 λS=>Ú S [.b n1,.s a1 l.length c1] λu b2 E3 hb4 S=>Ú S [.b n2,.s a2 m.length c2] λu b5 E6 hb7 S=>Ú S Sx.zr λu b8 E9 tX S=>Å S 4 [] [.M 2 1,.M 1 1] λS=>î S (Ve _ _ l m _ (h1.below S.E) (h2.below S.E) hl1 hl2) ?_;rintro e u ⟨g,rfl,hg,uM⟩;obtain⟨ag,cg,rfl⟩:=hg.shape;refine⟨_,I,uM,λS=>?_⟩;refine î S (jS false hg Z) ?_;rintro e u ⟨x,rfl,fg,zu⟩;obtain⟨bg,dg,rfl⟩:=fg.shape;refine⟨_,I,zu,λS=>?_⟩;refine Ú S [.z,.sn] λu b14 KA hb16 S=>è S 0 (off:=0) (cs:=[.z,.s bg (LZ (Nat.gcd (Pq l) (Pq m))).length dg]) I (λu FK S=>?_);have BG:=Ö KA FK;refine Å S 1 [] [.M 2 0] λS=>Þ S (pG n2 _ m _ (h2.below S.E) Z) λu FC S=>È S (decide ((qc n2 (Pq m))<0)) (λhc22 S=>?_) (λhc22 S=>?_)
 .have hn:n2=true:=(acW hm).symm.trans hc22;refine Å S 1 [] [.M 3 0] λS=>î S (Hw n1 _ l _ (h1.below S.E) Z) ?_;rintro e u ⟨x,rfl,nx,EK⟩;obtain⟨bnx,dnx,rfl⟩:=nx.shape;refine⟨_,I,EK,λS=>?_⟩;have X26:=S.bx 3;refine è S 3 (off:=0) (cs:=[.b (!n1&&decide (0<Pq l)),.s bnx (LZ (Pq l)).length dnx]) I (λu Ϝ S=>?_);have BN:=aK.dG (fg.ext (Ã BG (Ã FC EK))) Ϝ X26;have KG:=aK.dG nx Ϝ X26;refine Å S 1 [] [.M 2 0] λS=>î S (Hw n2 _ m _ (h2.below S.E) Z) ?_;rintro e u ⟨x,rfl,ny,BF⟩;obtain⟨bny,dny,rfl⟩:=ny.shape;refine⟨_,I,BF,λS=>?_⟩;have X31:=S.bx 2;refine è S 2 (off:=0) (cs:=[.b (!n2&&decide (0<Pq m)),.s bny (LZ (Pq m)).length dny]) I (λu Qp S=>?_);have BP:=aK.dG (BN.ext BF) Qp X31;have zf:=aK.dG (KG.ext BF) Qp X31;have aac:=aK.dG ny Qp X31;refine Å S 2 [] [.M 3 0,.M 0 0] λS=>î S (lN (!n1&&decide (0<Pq l)) _ _ (LZ (Pq l)) (LZ (Nat.gcd (Pq l) (Pq m))) _ (mW zf) (mW BP) (by rw[L6]; exact hG) (by simp only[L6]; exact Nat.mod_eq_zero_of_dvd (Nat.gcd_dvd_left _ _)) (ï (bP l) hl1) hGl) ?_;rintro e u ⟨x,y,rfl,fx,rfx,Q9⟩;simp only[L6]at fx;obtain⟨Yt,Yu,rfl⟩:=fx.shape;obtain⟨ajO,ajP,rfl⟩:=rfx.shape;have amV:=S.E.size;refine⟨_,I,Q9,λS=>?_⟩;refine Ú S [.z,.sn] λu b37 E38 auN S=>Ú S [.z,.sn] λu b40 Qq ajQ S=>è S 1 (off:=0) (cs:=[.b ((!n1&&decide (0<Pq l))&&decide (0<(Pq l/(Nat.gcd (Pq l) (Pq m))))),.s Yt (LZ (Pq l/(Nat.gcd (Pq l) (Pq m)))).length Yu]) I (λu C43 S=>?_);have S:=S.fl;have Ũ:=Ö (Ã Q9 (Ã E38 Qq)) C43 (by have:=Q9.size; omega);have ϝ:=Ö (Ã Q9 (Ã E38 Qq)) C43 (by have:=Q9.size; omega);have Ρ:=Ö (Ã E38 Qq) C43;refine è S 0 (off:=0) (cs:=[.z,.s ajO (LZ 0).length ajP]) I (λu C47 S=>?_);have Vx:=Ö Ũ C47 (by have:=(Ã Q9 E38).size; omega);have NW:=Ö ϝ C47 (by have:=(Ã Q9 E38).size; omega);have E50:=Ö Ρ C47 (by have:=E38.size; omega);refine Å S 3 [] [.M 4 0,.M 2 0] λS=>î S (lN (!n2&&decide (0<Pq m)) _ _ (LZ (Pq m)) (LZ (Nat.gcd (Pq l) (Pq m))) _ (mW (aac.ext NW)) (mW (BP.ext Vx)) (by rw[L6]; exact hG) (by simp only[L6]; exact Nat.mod_eq_zero_of_dvd (ayM _ _)) (ï (bP m) hl2) hGl) ?_;rintro e u ⟨x,y,rfl,fy,rfy,E52⟩;simp only[L6]at fy;obtain⟨Vq,Vr,rfl⟩:=fy.shape;obtain⟨ajR,ajS,rfl⟩:=rfy.shape;have amW:=S.E.size;refine⟨_,I,E52,λS=>?_⟩;refine Ú S [.z,.sn] λu b53 ϲ apf S=>Ú S [.z,.sn] λu b56 E57 auO S=>è S 1 (off:=0) (cs:=[.b ((!n2&&decide (0<Pq m))&&decide (0<(Pq m/(Nat.gcd (Pq l) (Pq m))))),.s Vq (LZ (Pq m/(Nat.gcd (Pq l) (Pq m)))).length Vr]) I (λu C59 S=>?_);have E60:=Ö (Ã E50 (Ã E52 (Ã ϲ E57))) C59 (by have:=(Ã E50 E52).size; omega);have E61:=Ö (Ã ϲ E57) C59;refine è S 0 (off:=0) (cs:=[.z,.s ajR (LZ 0).length ajS]) I (λu C62 S=>?_);have ϳ:=Ö E60 C62 (by have:=(Ã E50 (Ã E52 ϲ)).size; omega);have Ϟ:=Ö E61 C62 (by have:=ϲ.size; omega);have X67:=S.bx 5;refine Å S 4 [] [.M 3 0,.M 1 0] λS=>è S 5 (off:=0) (cs:=[.b ((!n1&&decide (0<Pq l))&&decide (0<(Pq l/(Nat.gcd (Pq l) (Pq m))))),.s Yt (LZ (Pq l/(Nat.gcd (Pq l) (Pq m)))).length Yu,.b ((!n2&&decide (0<Pq m))&&decide (0<(Pq m/(Nat.gcd (Pq l) (Pq m))))),.s Vq (LZ (Pq m/(Nat.gcd (Pq l) (Pq m)))).length Vr]) I (λu C66 S=>?_);have S:=S.fl;have Vy:=aK.dG (fx.ext ϳ) C66 X67;have Vz:=aK.dG (fy.ext Ϟ) C66 X67;refine ă S 5 I (v := .agg #[.b ((!n1&&decide (0<Pq l))&&decide (0<(Pq l/(Nat.gcd (Pq l) (Pq m))))),.s Yt (LZ (Pq l/(Nat.gcd (Pq l) (Pq m)))).length Yu,.b ((!n2&&decide (0<Pq m))&&decide (0<(Pq m/(Nat.gcd (Pq l) (Pq m))))),.s Vq (LZ (Pq m/(Nat.gcd (Pq l) (Pq m)))).length Vr]) (λS=>?_);exact⟨_,I,Q5 (aK.mono Vy Z) (aK.mono Vz Z) (by rw[Q7 _ _ _ _ hm,hn]; rfl) (by rw[hn]; rfl),S.E⟩
 have hn:n2=false:=(acW hm).symm.trans hc22;refine Å S 2 [] [.M 3 0,.M 0 0] λS=>î S (lN n1 _ _ l (LZ (Nat.gcd (Pq l) (Pq m))) _ (h1.below S.E) (mW (fg.ext (Ã BG FC))) (by rw[L6]; exact hG) (by simp only[L6]; exact Nat.mod_eq_zero_of_dvd (Nat.gcd_dvd_left _ _)) hl1 hGl) ?_;rintro e u ⟨x,y,rfl,fx,rfx,E71⟩;simp only[L6]at fx;obtain⟨Yt,Yu,rfl⟩:=fx.shape;obtain⟨ajO,ajP,rfl⟩:=rfx.shape;have amV:=S.E.size;refine⟨_,I,E71,λS=>?_⟩;refine Ú S [.z,.sn] λu b72 E73 apg S=>Ú S [.z,.sn] λu b75 Τ aph S=>è S 1 (off:=0) (cs:=[.b (n1&&decide (0<(Pq l/(Nat.gcd (Pq l) (Pq m))))),.s Yt (LZ (Pq l/(Nat.gcd (Pq l) (Pq m)))).length Yu]) I (λu C78 S=>?_);have E79:=Ö (Ã BG (Ã FC (Ã E71 (Ã E73 Τ)))) C78 (by have:=(Ã BG (Ã FC E71)).size; omega);have E80:=Ö (Ã E73 Τ) C78;refine è S 0 (off:=0) (cs:=[.z,.s ajO (LZ 0).length ajP]) I (λu C81 S=>?_);have E82:=Ö E79 C81 (by have:=(Ã BG (Ã FC (Ã E71 E73))).size; omega);have ϟ:=Ö E80 C81 (by have:=E73.size; omega);refine Å S 3 [] [.M 4 0,.M 2 0] λS=>î S (lN n2 _ _ m (LZ (Nat.gcd (Pq l) (Pq m))) _ (h2.below S.E) (mW (fg.ext E82)) (by rw[L6]; exact hG) (by simp only[L6]; exact Nat.mod_eq_zero_of_dvd (ayM _ _)) hl2 hGl) ?_;rintro e u ⟨x,y,rfl,fy,rfy,E85⟩;simp only[L6]at fy;obtain⟨Vq,Vr,rfl⟩:=fy.shape;obtain⟨ajR,ajS,rfl⟩:=rfy.shape;have amW:=S.E.size;refine⟨_,I,E85,λS=>?_⟩;refine Ú S [.z,.sn] λu b86 E87 apj S=>Ú S [.z,.sn] λu b89 E90 auP S=>è S 1 (off:=0) (cs:=[.b (n2&&decide (0<(Pq m/(Nat.gcd (Pq l) (Pq m))))),.s Vq (LZ (Pq m/(Nat.gcd (Pq l) (Pq m)))).length Vr]) I (λu C92 S=>?_);have E93:=Ö (Ã ϟ (Ã E85 (Ã E87 E90))) C92 (by have:=(Ã ϟ E85).size; omega);have E94:=Ö (Ã E87 E90) C92;refine è S 0 (off:=0) (cs:=[.z,.s ajR (LZ 0).length ajS]) I (λu C95 S=>?_);have S:=S.fl;have E96:=Ö E93 C95 (by have:=(Ã ϟ (Ã E85 E87)).size; omega);have E97:=Ö E94 C95 (by have:=E87.size; omega);have amX:=S.bx 5;refine Å S 4 [] [.M 3 0,.M 1 0] λS=>è S 5 (off:=0) (cs:=[.b (n1&&decide (0<(Pq l/(Nat.gcd (Pq l) (Pq m))))),.s Yt (LZ (Pq l/(Nat.gcd (Pq l) (Pq m)))).length Yu,.b (n2&&decide (0<(Pq m/(Nat.gcd (Pq l) (Pq m))))),.s Vq (LZ (Pq m/(Nat.gcd (Pq l) (Pq m)))).length Vr]) I (λu C99 S=>?_);have amY:=aK.dG (fx.ext E96) C99 amX;have ac4:=aK.dG (fy.ext E97) C99 amX;refine ă S 5 I (v := .agg #[.b (n1&&decide (0<(Pq l/(Nat.gcd (Pq l) (Pq m))))),.s Yt (LZ (Pq l/(Nat.gcd (Pq l) (Pq m)))).length Yu,.b (n2&&decide (0<(Pq m/(Nat.gcd (Pq l) (Pq m))))),.s Vq (LZ (Pq m/(Nat.gcd (Pq l) (Pq m)))).length Vr]) (λS=>?_);exact⟨_,I,Q5 (aK.mono amY Z) (aK.mono ac4 Z) (by rw[Q7 _ _ _ _ hm,hn]; rfl) (by rw[hn]; rfl),S.E⟩
abbrev H9{w w1:Á}{A:Array À}{ta tb:TypeId}{x0 x1 x2 x3:À}(hb:Ext ((w.alloc (.cells A ta)).alloc (.cells #[x0,x1,x2,x3] tb)) w1) :
  (∀i,w1.cell? ⟨w.heap.size,i,none⟩=A[i]?)∧(∀i,w1.cell? ⟨w.heap.size+1,i,none⟩ = #[x0,x1,x2,x3][i]?)∧(∀i,w1.frozen? ⟨w.heap.size+1,i,none⟩=false)∧w.heap.size+1<w1.heap.size:=by
 refine⟨λi=>?_,λi=>?_,λi=>?_,by have:=hb.size; simp at this; omega⟩
 .rw[hb.cell (p:=⟨w.heap.size,i,none⟩) (by simp; omega)]; simp[go_sem]
 .rw[hb.cell (p:=⟨w.heap.size+1,i,none⟩) Y]; simp[go_sem]
 rw[hb.frozen (p:=⟨w.heap.size+1,i,none⟩) Y]; simp[go_sem]
abbrev zx(n1 n2:Bool)(s1 s2:À)(l m:List UInt32)(w:Á)(h1:aF w s1 l)(h2:aF w s2 m)(hl1:l.length<=5000000)(hl2:m.length<=5000000) :
  Ä prog 125 #[.agg #[.b n1,s1,.b n2,s2]] w λe w'=>∃x,e = .R x∧bF w.heap.size w' x (nrm n1 n2 (Pq l) (Pq m))∧Ext w w':=by
 obtain⟨a1,c1,rfl⟩:=h1.shape;obtain⟨a2,c2,rfl⟩:=h2.shape;have hb0:=(aH w (.cells #[.b n1,.s a1 l.length c1,.b n2,.s a2 m.length c2] 26)).alloc Y (.cells #[.z,.sn,.z,.sn] 26);have hS:=pG n2 _ m _ (h2.below hb0) Z;have H:=Â (And.intro h1 h2);have HB0:=Â hb0;rcases ę (Pq m)with hm | hm
 .have hN:nrm n1 n2 (Pq l) (Pq m)=(false,0,1):=by unfold nrm; rw[Ï hm]
  rw[hN];rw[hm,show qc n2 0=0 from rfl]at hS;have HS:=Â hS;clear h1 h2 hb0 hm hN hS;go_enter func125,ntmps125
  go_wp2_with fail
  refine HS.out.mono ?_;rintro e w1 ⟨rfl,hb⟩;have HX:=Â (Ã HB0.out hb);have HY:=Â (gJ 0 w1 O);have HBB:=Â hb;clear hb HS;go_wp2_with fail
  refine HY.out.mono ?_;rintro e w2 ⟨x,rfl,hx,hb2⟩;obtain⟨b1,d1,b2,d2,rfl⟩:=hx.shape;obtain⟨-,r1,f1,hz⟩:=H9 (Ã HBB.out hb2);obtain⟨-,-,-,hz1⟩:=H9 HBB.out;have F:=Â hx;have HX2:=Â (Ã HX.out hb2);clear hx hb2 HY;go_wp2_with fail
  refine bodyPost_ret (v := .agg #[.z,.s b1 (LZ 0).length d1,.z,.s b2 (LZ 1).length d2]) (by simp[results,results125,go_sem,r1]) I ⟨_,I,?_,qP HX2.out Z _ _ _ _⟩;exact(F.out.NY hz1 _ _ _ _).mono Z
 have hN:nrm n1 n2 (Pq l) (Pq m)=(kZ n1 n2 (Pq l) (Pq m),Pq l/Nat.gcd (Pq l) (Pq m),Pq m/Nat.gcd (Pq l) (Pq m)):=by unfold nrm; rw[É Z]
 obtain⟨⟨NG,ý,ê⟩,hr⟩:∃r,nrm n1 n2 (Pq l) (Pq m)=r:=⟨_,I⟩;rw[hr];rw[hN]at hr;obtain⟨e1,hr⟩:=ayN hr;obtain⟨e2,e3⟩:=ayN hr;have E:=Â (And.intro e1 (And.intro e2 e3));clear e1 e2 e3 hr hN;have hs0:(qc n2 (Pq m)==0)=false:=by
  rw[ä]; unfold qc; rw[É Z]; cases n2<;>simp
 have HM:=Â hm;have HS:=Â hS;clear h1 h2 hb0 hm hS;go_enter func125,ntmps125
 go_wp2_with fail
 refine HS.out.mono ?_;rintro e w1 ⟨rfl,hb⟩;have hX:=Ã HB0.out hb;have HX:=Â hX;have hY:=zO n1 n2 _ _ l m w1 (H.out.1.below hX) (H.out.2.below hX) HM.out hl1 hl2;rw[E.out.1,E.out.2.1,E.out.2.2]at hY;have HY:=Â hY;clear hY;have HBB:=Â hb;obtain⟨k0,-,-,-⟩:=H9 hb;clear hb HS hX;go_wp2_with fail
 refine HY.out.mono ?_;rintro e w2 ⟨x,rfl,hx,hb2⟩;obtain⟨b1,d1,b2,d2,rfl⟩:=hx.shape;obtain⟨-,r1,f1,hz⟩:=H9 (Ã HBB.out hb2);obtain⟨-,-,-,hz1⟩:=H9 HBB.out;have F:=Â hx;have HX2:=Â (Ã HX.out hb2);clear hx hb2 HY k0;go_wp2_with fail
 refine bodyPost_ret (v := .agg #[.b NG,.s b1 (LZ ý).length d1,.z,.s b2 (LZ ê).length d2]) (by simp[results,results125,go_sem,r1]) I ⟨_,I,?_,qP HX2.out Z _ _ _ _⟩;exact(F.out.NY hz1 _ _ _ _).mono (show w.heap.size<=w1.heap.size by omega)
abbrev EL(n1 n2:Bool)(s1 s2:À)(l m:List UInt32)(w:Á)(h1:aF w s1 l)(h2:aF w s2 m) :
  Ä prog 241 #[.agg #[.b n1,s1],.agg #[.b n2,s2]] w (RF w (.b (n1==n2&&l==m))):=by
 obtain⟨a1,c1,rfl⟩:=h1.shape;obtain⟨a2,c2,rfl⟩:=h2.shape;have hl1:=h1.len;have hl2:=h2.len;unfold maxLen at hl1 hl2;have HB0:=Â ((aH w (.cells #[.b n1,.s a1 l.length c1] 24)).alloc Y (.cells #[.b n2,.s a2 m.length c2] 24));have H1:=Â h1;have H2:=Â h2;clear h1 h2;by_cases hn:n1=n2
 .subst hn;by_cases hl:l.length=m.length
  .have HL:=Â hl;obtain⟨W,hW⟩:∃W,((w.alloc (.cells #[.b n1,.s a1 l.length c1] 24)).alloc (.cells #[.b n1,.s a2 m.length c2] 24))=W:=⟨_,I⟩;have hK:∀w1,Ext W w1->w1.cell? ⟨w.heap.size,1,none⟩=some (.s a1 l.length c1)∧w1.cell? ⟨w.heap.size+1,1,none⟩=some (.s a2 m.length c2):=by
    intro w1 hb;subst hW;constructor
    .rw[hb.cell (p:=⟨w.heap.size,1,none⟩) (by simp; omega)]; simp[go_sem]
    rw[hb.cell (p:=⟨w.heap.size+1,1,none⟩) Y]; simp[go_sem]
   have HK:=Â hK;rw[hW]at HB0;have HW:=Â hW;have hne:((l.length:Int) != (m.length:Int))=false:=by rw[bne_eq_false_iff_eq]; omega
   have hml:m.length<=l.length:=ayK hl.symm;have hlm:l.length<=m.length:=ayK hl;clear hl hK hW;cases n1;all_goals
    go_enter func241,ntmps241
    go_wp2_with fail
    rw[HW.out]
    clear hne
    go_loopw [5] (λi wr=>∃k:Nat,i = .i k∧k<=l.length∧l.take k=m.take k∧Ext W wr) (λi _=>l.length-(intOf i).toNat)
    case atStart=>exact⟨0,I,Õ _,I,ù _ _⟩
    case round =>
     obtain⟨k,rfl,hk,ht,hbel⟩:=hrel
     have HT:=Â ht
     clear ht
     obtain⟨q1,q2⟩:=HK.out wr hbel
     by_cases hlt:k<l.length
     .obtain⟨bx,ox,cx,hxs,hbx,hlx,hmx,hcx⟩:=dH H1.out I Z
      obtain⟨by',oy,cy,hys,hby,hly,hmy,hcy⟩:=dH H2.out I Z
      simp only[Ĉ]at hxs hys
      obtain⟨rfl,-,-⟩:=hxs
      obtain⟨rfl,-,-⟩:=hys
      have hkm:k<m.length:=Z
      have hb:=Ã HB0.out hbel
      have r1:wr.cell? ⟨bx,ox+k,none⟩=some (aU l[k]):=by rw[hb.cell (p:=⟨bx,ox+k,none⟩) hbx]; exact hcx k hlt
      have r2:wr.cell? ⟨by',oy+k,none⟩=some (aU m[k]):=by rw[hb.cell (p:=⟨by',oy+k,none⟩) hby]; exact hcy k hkm
      have hs1:=take_snoc l k hlt
      have hs2:=take_snoc m k hkm
      clear hcx hcy hb
      have hkI:(k:Int)<(m.length:Int):=Z
      by_cases he:l[k]=m[k]
      .have hnx:l.take (k+1)=m.take (k+1):=by rw[hs1,hs2,HT.out,he]
       rw[he]at r1
       have HN:=Â hnx
       generalize m[k]=d at *
       clear hs1 hs2 hnx he
       go_wp2_with fail
       go_quiet (fail)
       go_wp2_with fail
       go_roundw
       case rel=>exact⟨k+1,by go_num,Z,HN.out,below_drewN hbel _⟩
       case measure=>simp[intOf]; omega
      .have hx:((l[k].toNat:Int) != (m[k].toNat:Int))=true:=by
        rw[bne_iff_ne]; intro e; exact he (ř.1 Z)
       have hr:l≠m:=λe=>he (by subst e; rfl)
       have HR:Hid ((l==m)=false):=ä.2 hr
       generalize l[k]=d1 at *
       generalize m[k]=d2 at *
       clear hs1 hs2 he hr
       go_wp2_with fail
       go_quiet (fail)
       go_wp2_with fail
       go_ret
       exact⟨by rw[HR.out]; rfl,below_drewN (Ã HB0.out hbel) _⟩
     .obtain rfl:k=l.length:=by omega
      have hr:l=m:=by
       have:=HT.out
       rw[Ħ,HL.out,Ħ]at this; exact this
      have HR:Hid ((l==m)=true):=Û.2 hr
      clear hr
      go_wp2_with fail
      go_ret
      exact⟨by rw[HR.out]; rfl,Ã HB0.out hbel⟩
  have hne:((l.length:Int) != (m.length:Int))=true:=by rw[bne_iff_ne]; omega
  have hr:Hid ((n1==n1&&l==m)=false):=by
   show _=_;rw[Ŷ,ļ,ä]; exact λe=>hl (by rw[e])
  clear hl;cases n1;all_goals
   go_enter func241,ntmps241
   go_wp2_with fail
   go_ret
   exact⟨by rw[hr.out]; rfl,HB0.out⟩
 have hr:Hid ((n1==n2&&l==m)=false):=by
  show _=_;rw[ä.2 hn,ŕ]
 cases n1<;>cases n2
 .exact absurd I hn
 case' true.true=>exact absurd I hn
 all_goals
  clear hn
  go_enter func241,ntmps241
  go_wp2_with fail
  go_ret
  exact⟨by rw[hr.out]; rfl,HB0.out⟩
abbrev gV(v:À)(q:Bool×Nat×Nat)(K:Nat)(w:Á)(h:dL K w v q)(hK:K<=1000000) :
  Ä prog 125 #[v] w λe w'=>∃x,e = .R x∧bF w.heap.size w' x q∧Ext w w':=by
 obtain⟨n1,s1,l1,n2,s2,l2,rfl,h1,h2,h3,h4,rfl⟩:=h;exact zx n1 n2 s1 s2 l1 l2 w h1 h2 Z Z
abbrev Rf(v1 v2:À)(z:Int)(d K:Nat)(w:Á)(h1:fK K w v1 z)(h2:fK K w v2 (d:Int))(hd:0<d)(hK:K<=1000000) :
  Ä prog 174 #[v1,v2] w λe w'=>∃x,e = .R x∧bF w.heap.size w' x (nz z d)∧Ext w w':=by
 obtain⟨n1,s1,l,rfl,h1,hl,rfl⟩:=h1;obtain⟨n2,s2,m,rfl,h2,hm,hz⟩:=h2;obtain⟨rfl,rfl⟩:n2=false∧Pq m=d:=by
  unfold zv at hz;cases n2
  .simp only[ayJ,if_false]at hz; exact⟨I,Z⟩
  simp only[if_true]at hz; omega
 have h:=zO n1 false s1 s2 l m w h1 h2 hd Z Z;rw[<-ac5];unfold nrm;rw[É Z];exact h
abbrev Rh(v1 v2:À)(q1 q2:Bool×Nat×Nat)(K1 K2:Nat)(w:Á)(h1:dL K1 w v1 q1)(h2:dL K2 w v2 q2)(hK1:1<=K1)(hK2:1<=K2)(hM1:K1<=100000)(hM2:K2<=100000) :
  Ä prog 206 #[v1,v2] w λe w'=>∃x,e = .R x∧bF w.heap.size w' x (oU q1 q2)∧Ext w w':=by
 obtain⟨n1,a1,m1,c1,o1,NZ,k1,d1,rfl⟩:=h1.shape;have rE:=h1.len hK1;have Yx:=h1.pos;obtain⟨n2,a2,m2,c2,o2,Yy,k2,d2,rfl⟩:=h2.shape;have tH:=h2.len hK2;have HP2:=h2.pos;refine Ë func206 ntmps206 λS=>Ú S [.b n1,.s a1 m1 c1,.b o1,.s NZ k1 d1] λu b2 E3 hb4 S=>Ú S [.b n2,.s a2 m2 c2,.b o2,.s Yy k2 d2] λu b5 E6 hb7 S=>Ú S Sx.zr (λu b8 E9 tX S=>?_);have hold:=λp hp=>(S.own p hp).1.1;have lg:=S.E.size;refine Sx.zd S λS id=>š X<|N7 [(4,5),(5,6)] S 6 [(8,λv w1=>bF w.heap.size w1 v q1),(10,λv w1=>bF w.heap.size w1 v q2),(5,iK u.heap.size Sx.zr none),(6,iK u.heap.size Sx.zr none)] (λr=>[.M 2 0,.M 1 0,.new 5 Sx.zr none r,.new 6 Sx.zr none r]) (λx=>[x 8,x 10,x 5,x 6]) (λx=>[(_,_,true,x 8,8),(_,_,true,x 10,10)]) [[],[]] (λx=>[(5,x 5),(6,x 6),(8,x 8),(10,x 10)]) ⟨λ_ _ _ k h=>au.ext h k,λ_ _ _ k h=>au.ext h k,iK.mono,iK.mono,G⟩ (λx=>⟨by intro u hC g F; exact(gV _ q1 K1 _ (h1.below (Ã S.E hC)) Z).mono λe w2 h=>by obtain⟨x,rfl,hx,hb⟩:=h; exact⟨_,I,hx.mono ((Ã S.E hC)).size,hb⟩,by intro u hC g F; exact(gV _ q2 K2 _ (h2.below (Ã S.E hC)) Z).mono λe w2 h=>by obtain⟨x,rfl,hx,hb⟩:=h; exact⟨_,I,hx.mono ((Ã S.E hC)).size,hb⟩,G⟩) (hN:=λr=>⟨⟨I,I⟩,⟨I,I⟩,G⟩) (hk:=λr=>⟨G,G,G⟩) (hA:=⟨⟨_,_,_,I,I,I,I,I⟩,⟨_,_,_,I,I,I,I,I⟩,G⟩) λac u x uM F AP S=>zdo S (λS=>?_);obtain⟨F8,F10,F5,F6,-⟩:=F;obtain⟨x1,e1,y1,f1,em⟩:=au.shape F8;rw[em]at S F8;try rw[em]
 obtain⟨x2,e2,y2,f2,em⟩:=au.shape F10;rw[em]at S F10;try rw[em]
 obtain⟨b13,F5,ac6,BD⟩:=F5;rw[F5]at S;try rw[F5]
 have S:=S.adopt (A:=Sx.zr) BD Z (λp hp=>by have:=hold p hp; omega) (λm hm=>by cases hm);obtain⟨b16,F6,Ri,Yn⟩:=F6;rw[F6]at S;try rw[F6]
 have S:=S.adopt (A:=Sx.zr) Yn Z (λp hp=>by exact(ç.1 hp).elim (λe e2=>AP (4,5) Y (5,6) Y O (F5.trans ((Ñ (Z5 none) ((Ñ Prod.fst e).symm.trans e2)).trans F6.symm))) (λhp=>by have:=hold p hp; omega)) (λm hm=>by cases hm);have X20:=S.bx 1;refine è S 1 (off:=0) (cs:=[.b q1.1,.s x1 (LZ q1.2.1).length e1,.z,.s y1 (LZ q1.2.2).length f1]) I (λu ũ S=>?_);have wu:=au.dG F8 ũ X20;have qQ:=au.dG F10 ũ X20;have ž:=S.bx 0;refine è S 0 (off:=0) (cs:=[.b q2.1,.s x2 (LZ q2.2.1).length e2,.z,.s y2 (LZ q2.2.2).length f2]) I (λu Yz S=>?_);have wz:=au.dG wu Yz ž;have wV:=au.dG qQ Yz ž;refine Į S 11 [(15,λv w1=>oL w.heap.size w1 v (qz q1*qz q2)),(20,λv w1=>oL w.heap.size w1 v ((q1.2.2:Int)*(q2.2.2:Int))),(21,λv w1=>bF w.heap.size w1 v (oU q1 q2))] (λr=>[.M 1 0,.M 0 0,.M 1 2,.M 0 2]) (λx=>[x 15,x 20,x 21]) (λx=>[(_,_,true,x 15,15),(_,_,true,x 20,20),(_,_,true,x 21,21)]) [[],[],[15,20]] (λx=>[(21,x 21)]) ⟨λ_ _ _ k h=>aK.ext h k,λ_ _ _ k h=>aK.ext h k,λ_ _ _ k h=>au.ext h k,G⟩ (λx=>⟨by intro u hC g F; exact(kW _ _ _ _ _ _ _ (((wz.ext hC)).parts' rE).1 (((wV.ext hC)).parts' tH).1 Z Z).mono λe w2 h=>by obtain⟨x,rfl,hx,hb⟩:=h; exact⟨_,I,hx.mono ((Ã S.E hC)).size,hb⟩,by intro u hC g F; exact(kW _ _ _ _ _ _ _ (((wz.ext hC)).parts' rE).2 (((wV.ext hC)).parts' tH).2 Z Z).mono λe w2 h=>by obtain⟨x,rfl,hx,hb⟩:=h; exact⟨_,I,hx.mono ((Ã S.E hC)).size,hb⟩,by intro u hC g F; obtain⟨Gn,F20,-⟩:=F; exact(Rf _ _ (qz q1*qz q2) (q1.2.2*q2.2.2) (K1+K2) _ (oL.toQ Gn (gy _ _ (jG rE) (jG tH))) (oL.toQ (z:=((q1.2.2*q2.2.2:Nat):Int)) (by rw[ayO]; exact F20) (by rw[ayO]; exact gy _ _ (fG rE.2) (fG tH.2))) (ϕ Yx HP2) Z).mono λe w2 h=>by obtain⟨x,rfl,hx,hb⟩:=h; exact⟨_,I,hx.mono ((Ã S.E hC)).size,hb⟩,G⟩) (λu x Qr F S=>?_);obtain⟨Gn,F20,Ym,-⟩:=F;obtain⟨x3,e3,y3,f3,em⟩:=au.shape Ym;rw[em]at S Ym;try rw[em]
 have X30:=S.bx 2;refine è S 2 (off:=0) (cs:=[.b ((oU q1 q2).1),.s x3 (LZ (oU q1 q2).2.1).length e3,.z,.s y3 (LZ (oU q1 q2).2.2).length f3]) I (λu Ū S=>?_);have Au:=au.dG Ym Ū X30;refine ă S 2 I (v := .agg #[.b ((oU q1 q2).1),.s x3 (LZ (oU q1 q2).2.1).length e3,.z,.s y3 (LZ (oU q1 q2).2.2).length f3]) (λS=>?_);exact⟨_,I,Au,S.E⟩
abbrev ac7(v1 v2:À)(q1 q2:Bool×Nat×Nat)(K1 K2:Nat)(w:Á)(h1:dL K1 w v1 q1)(h2:dL K2 w v2 q2)(hK1:1<=K1)(hK2:1<=K2)(hM1:K1<=100000)(hM2:K2<=100000) :
  Ä prog 245 #[v1,v2] w λe w'=>∃x,e = .R x∧bF w.heap.size w' x (KH q1 q2)∧Ext w w':=by
 obtain⟨n1,a1,m1,c1,o1,NZ,k1,d1,rfl⟩:=h1.shape;have rE:=h1.len hK1;have Yx:=h1.pos;obtain⟨n2,a2,m2,c2,o2,Yy,k2,d2,rfl⟩:=h2.shape;have tH:=h2.len hK2;have HP2:=h2.pos;refine Ë func245 ntmps245 λS=>Ú S [.b n1,.s a1 m1 c1,.b o1,.s NZ k1 d1] λu b2 E3 hb4 S=>Ú S [.b n2,.s a2 m2 c2,.b o2,.s Yy k2 d2] λu b5 E6 hb7 S=>Ú S Sx.zr (λu b8 E9 tX S=>?_);have hold:=λp hp=>(S.own p hp).1.1;have lg:=S.E.size;refine Sx.zd S λS id=>š X<|N7 [(4,5),(5,6)] S 6 [(8,λv w1=>bF w.heap.size w1 v q1),(10,λv w1=>bF w.heap.size w1 v q2),(5,iK u.heap.size Sx.zr none),(6,iK u.heap.size Sx.zr none)] (λr=>[.M 2 0,.M 1 0,.new 5 Sx.zr none r,.new 6 Sx.zr none r]) (λx=>[x 8,x 10,x 5,x 6]) (λx=>[(_,_,true,x 8,8),(_,_,true,x 10,10)]) [[],[]] (λx=>[(5,x 5),(6,x 6),(8,x 8),(10,x 10)]) ⟨λ_ _ _ k h=>au.ext h k,λ_ _ _ k h=>au.ext h k,iK.mono,iK.mono,G⟩ (λx=>⟨by intro u hC g F; exact(gV _ q1 K1 _ (h1.below (Ã S.E hC)) Z).mono λe w2 h=>by obtain⟨x,rfl,hx,hb⟩:=h; exact⟨_,I,hx.mono ((Ã S.E hC)).size,hb⟩,by intro u hC g F; exact(gV _ q2 K2 _ (h2.below (Ã S.E hC)) Z).mono λe w2 h=>by obtain⟨x,rfl,hx,hb⟩:=h; exact⟨_,I,hx.mono ((Ã S.E hC)).size,hb⟩,G⟩) (hN:=λr=>⟨⟨I,I⟩,⟨I,I⟩,G⟩) (hk:=λr=>⟨G,G,G⟩) (hA:=⟨⟨_,_,_,I,I,I,I,I⟩,⟨_,_,_,I,I,I,I,I⟩,G⟩) λac u x uM F AP S=>zdo S (λS=>?_);obtain⟨F8,F10,F5,F6,-⟩:=F;obtain⟨x1,e1,y1,f1,em⟩:=au.shape F8;rw[em]at S F8;try rw[em]
 obtain⟨x2,e2,y2,f2,em⟩:=au.shape F10;rw[em]at S F10;try rw[em]
 obtain⟨b13,F5,ac6,BD⟩:=F5;rw[F5]at S;try rw[F5]
 have S:=S.adopt (A:=Sx.zr) BD Z (λp hp=>by have:=hold p hp; omega) (λm hm=>by cases hm);obtain⟨b16,F6,Ri,Yn⟩:=F6;rw[F6]at S;try rw[F6]
 have S:=S.adopt (A:=Sx.zr) Yn Z (λp hp=>by exact(ç.1 hp).elim (λe e2=>AP (4,5) Y (5,6) Y O (F5.trans ((Ñ (Z5 none) ((Ñ Prod.fst e).symm.trans e2)).trans F6.symm))) (λhp=>by have:=hold p hp; omega)) (λm hm=>by cases hm);have X20:=S.bx 1;refine è S 1 (off:=0) (cs:=[.b q1.1,.s x1 (LZ q1.2.1).length e1,.z,.s y1 (LZ q1.2.2).length f1]) I (λu ũ S=>?_);have wu:=au.dG F8 ũ X20;have qQ:=au.dG F10 ũ X20;have ž:=S.bx 0;refine è S 0 (off:=0) (cs:=[.b q2.1,.s x2 (LZ q2.2.1).length e2,.z,.s y2 (LZ q2.2.2).length f2]) I (λu Yz S=>?_);have wz:=au.dG wu Yz ž;have wV:=au.dG qQ Yz ž;refine Į S 17 [(15,λv w1=>oL w.heap.size w1 v (qz q1*(q2.2.2:Int))),(20,λv w1=>oL w.heap.size w1 v (qz q2*(q1.2.2:Int))),(21,λv w1=>oL w.heap.size w1 v ((qz q1*(q2.2.2:Int))+(qz q2*(q1.2.2:Int)))),(26,λv w1=>oL w.heap.size w1 v ((q1.2.2:Int)*(q2.2.2:Int))),(27,λv w1=>bF w.heap.size w1 v (KH q1 q2))] (λr=>[.M 1 0,.M 0 2,.M 0 0,.M 1 2,.M 1 2,.M 0 2]) (λx=>[x 15,x 20,x 21,x 26,x 27]) (λx=>[(_,_,true,x 15,15),(_,_,true,x 20,20),(_,_,true,x 21,21),(_,_,true,x 26,26),(_,_,true,x 27,27)]) [[],[],[15,20],[],[21,26]] (λx=>[(27,x 27)]) ⟨λ_ _ _ k h=>aK.ext h k,λ_ _ _ k h=>aK.ext h k,λ_ _ _ k h=>aK.ext h k,λ_ _ _ k h=>aK.ext h k,λ_ _ _ k h=>au.ext h k,G⟩ (λx=>⟨by intro u hC g F; exact(kW _ _ _ _ _ _ _ (((wz.ext hC)).parts' rE).1 (((wV.ext hC)).parts' tH).2 Z Z).mono λe w2 h=>by obtain⟨x,rfl,hx,hb⟩:=h; exact⟨_,I,hx.mono ((Ã S.E hC)).size,hb⟩,by intro u hC g F; exact(kW _ _ _ _ _ _ _ (((wV.ext hC)).parts' tH).1 (((wz.ext hC)).parts' rE).2 Z Z).mono λe w2 h=>by obtain⟨x,rfl,hx,hb⟩:=h; exact⟨_,I,hx.mono ((Ã S.E hC)).size,hb⟩,by intro u hC g F; obtain⟨Gn,F20,-⟩:=F; exact(EI _ _ _ _ _ _ _ (oL.toQ (K:=K1+K2) Gn (gy _ _ (jG rE) (fG tH.2))) (oL.toQ (K:=K1+K2) F20 (by rw[ŧ]; exact gy _ _ (jG tH) (fG rE.2))) Z Z).mono λe w2 h=>by obtain⟨x,rfl,hx,hb⟩:=h; exact⟨_,I,hx.mono ((Ã S.E hC)).size,hb⟩,by intro u hC g F; exact(kW _ _ _ _ _ _ _ (((wz.ext hC)).parts' rE).2 (((wV.ext hC)).parts' tH).2 Z Z).mono λe w2 h=>by obtain⟨x,rfl,hx,hb⟩:=h; exact⟨_,I,hx.mono ((Ã S.E hC)).size,hb⟩,by intro u hC g F; obtain⟨Ym,F26,-⟩:=F; exact(Rf _ _ ((qz q1*(q2.2.2:Int))+(qz q2*(q1.2.2:Int))) (q1.2.2*q2.2.2) (K1+K2+1) _ (oL.toQ Ym (N8 _ _ (gy _ _ (jG rE) (fG tH.2)) (show _<=K1+K2 by rw[ŧ]; exact gy _ _ (jG tH) (fG rE.2)))) (oL.toQ (z:=((q1.2.2*q2.2.2:Nat):Int)) (by rw[ayO]; exact F26) (by rw[ayO]; exact Nat.le_succ_of_le (gy _ _ (fG rE.2) (fG tH.2)))) (ϕ Yx HP2) Z).mono λe w2 h=>by obtain⟨x,rfl,hx,hb⟩:=h; exact⟨_,I,hx.mono ((Ã S.E hC)).size,hb⟩,G⟩) (λu x Qr F S=>?_);obtain⟨Gn,F20,Ym,F26,F27,-⟩:=F;obtain⟨x3,e3,y3,f3,em⟩:=au.shape F27;rw[em]at S F27;try rw[em]
 have X30:=S.bx 2;refine è S 2 (off:=0) (cs:=[.b ((KH q1 q2).1),.s x3 (LZ (KH q1 q2).2.1).length e3,.z,.s y3 (LZ (KH q1 q2).2.2).length f3]) I (λu Ū S=>?_);have Au:=au.dG F27 Ū X30;refine ă S 2 I (v := .agg #[.b ((KH q1 q2).1),.s x3 (LZ (KH q1 q2).2.1).length e3,.z,.s y3 (LZ (KH q1 q2).2.2).length f3]) (λS=>?_);exact⟨_,I,Au,S.E⟩
abbrev Rj(v1 v2:À)(q1 q2:Bool×Nat×Nat)(K1 K2:Nat)(w:Á)(h1:dL K1 w v1 q1)(h2:dL K2 w v2 q2)(hK1:1<=K1)(hK2:1<=K2)(hM1:K1<=100000)(hM2:K2<=100000) :
  Ä prog 156 #[v1,v2] w (RF w (.i (jH q1 q2))):=by
 obtain⟨n1,a1,m1,c1,o1,NZ,k1,d1,rfl⟩:=h1.shape;have rE:=h1.len hK1;have Yx:=h1.pos;obtain⟨n2,a2,m2,c2,o2,Yy,k2,d2,rfl⟩:=h2.shape;have tH:=h2.len hK2;have HP2:=h2.pos;refine Ŗ func156 ntmps156 λac S=>Î λ_ ig=>ī S 2 [.b n1,.s a1 m1 c1,.b o1,.s NZ k1 d1] λac u b2 E3 hb4 S=>ī S 3 [.b n2,.s a2 m2 c2,.b o2,.s Yy k2 d2] λac u b5 E6 hb7 S=>Ç S 1 [] [(4,.i 0)] λS=>Ê<|ig _ _<|ß (λ_ Gq=>?_);have hold:=λp hp=>(S.own p hp).1.1;have lg:=S.E.size;refine š X<|N7 [(4,5),(5,6)] S 6 [(8,λv w1=>bF w.heap.size w1 v q1),(10,λv w1=>bF w.heap.size w1 v q2),(5,iK u.heap.size Sx.zr none),(6,iK u.heap.size Sx.zr none)] (λr=>[.M 1 0,.M 0 0,.new 5 Sx.zr none r,.new 6 Sx.zr none r]) (λx=>[x 8,x 10,x 5,x 6]) (λx=>[(_,_,true,x 8,8),(_,_,true,x 10,10)]) [[],[]] (λx=>[(5,x 5),(6,x 6),(8,x 8),(10,x 10)]) ⟨λ_ _ _ k h=>au.ext h k,λ_ _ _ k h=>au.ext h k,iK.mono,iK.mono,G⟩ (λx=>⟨by intro u hC g F; exact(gV _ q1 K1 _ (h1.below (Ã S.E hC)) Z).mono λe w2 h=>by obtain⟨x,rfl,hx,hb⟩:=h; exact⟨_,I,hx.mono ((Ã S.E hC)).size,hb⟩,by intro u hC g F; exact(gV _ q2 K2 _ (h2.below (Ã S.E hC)) Z).mono λe w2 h=>by obtain⟨x,rfl,hx,hb⟩:=h; exact⟨_,I,hx.mono ((Ã S.E hC)).size,hb⟩,G⟩) (λac u x E9 F AP S=>?_) (hN:=λr=>⟨⟨I,I⟩,⟨I,I⟩,G⟩) (hk:=λr=>⟨G,G,G⟩) (hA:=⟨⟨_,_,_,I,I,I,I,I⟩,⟨_,_,_,I,I,I,I,I⟩,G⟩);obtain⟨F8,F10,F5,F6,-⟩:=F;obtain⟨x1,e1,y1,f1,em⟩:=au.shape F8;rw[em]at S F8;obtain⟨x2,e2,y2,f2,em⟩:=au.shape F10;rw[em]at S F10;obtain⟨b10,F5,BQ,Qs⟩:=F5;rw[F5]at S;have S:=S.adopt (A:=Sx.zr) Qs Z (λp hp=>by have:=hold p hp; omega) (λm hm=>by cases hm);obtain⟨b13,F6,ac6,BD⟩:=F6;rw[F6]at S;have S:=S.adopt (A:=Sx.zr) BD Z (λp hp=>by exact(ç.1 hp).elim (λe e2=>AP (4,5) Y (5,6) Y O (F5.trans ((Ñ (Z5 none) ((Ñ Prod.fst e).symm.trans e2)).trans F6.symm))) (λhp=>by have:=hold p hp; omega)) (λm hm=>by cases hm);have Yn:=S.bx 1;refine Ĭ S 1 (off:=0) (cs:=[.b q1.1,.s x1 (LZ q1.2.1).length e1,.z,.s y1 (LZ q1.2.2).length f1]) I (λu Ź S=>?_);have Am:=au.dG F8 Ź Yn;have pI:=au.dG F10 Ź Yn;have Υ:=S.bx 0;refine Ĭ S 0 (off:=0) (cs:=[.b q2.1,.s x2 (LZ q2.2.1).length e2,.z,.s y2 (LZ q2.2.2).length f2]) I (λu Ia S=>?_);have qQ:=au.dG Am Ia Υ;have FM:=au.dG pI Ia Υ;refine Ê<|Gq _ _<|ß λ_ VA=>ug S 11 [(15,λv w1=>oL w.heap.size w1 v (qz q1*(q2.2.2:Int))),(20,λv w1=>oL w.heap.size w1 v (qz q2*(q1.2.2:Int)))] (λr=>[.M 1 0,.M 0 2,.M 0 0,.M 1 2]) (λx=>[x 15,x 20,.i (jH q1 q2)]) (λx=>[(_,_,true,x 15,15),(_,_,true,x 20,20),(_,_,true,.i (jH q1 q2),21)]) [[],[],[15,20]] (λx=>[(21,.i (jH q1 q2))]) ⟨λ_ _ _ k h=>aK.ext h k,λ_ _ _ k h=>aK.ext h k,G⟩ (λx=>⟨by intro u hC g F; exact(kW _ _ _ _ _ _ _ (((qQ.ext hC)).parts' rE).1 (((FM.ext hC)).parts' tH).2 Z Z).mono λe w2 h=>by obtain⟨x,rfl,hx,hb⟩:=h; exact⟨_,I,hx.mono ((Ã S.E hC)).size,hb⟩,by intro u hC g F; exact(kW _ _ _ _ _ _ _ (((FM.ext hC)).parts' tH).1 (((qQ.ext hC)).parts' rE).2 Z Z).mono λe w2 h=>by obtain⟨x,rfl,hx,hb⟩:=h; exact⟨_,I,hx.mono ((Ã S.E hC)).size,hb⟩,by intro u hC g F; obtain⟨Gn,F20,-⟩:=F; exact(QW _ _ _ _ _ _ _ (oL.toQ (K:=K1+K2) Gn (gy _ _ (jG rE) (fG tH.2))) (oL.toQ (K:=K1+K2) F20 (by rw[ŧ]; exact gy _ _ (jG tH) (fG rE.2))) Z Z).mono λe w2 h=>⟨_,h.1,I,h.2⟩,G⟩) (λac u x FD F S=>?_);obtain⟨Gn,F20,-⟩:=F;refine Ç S 1 [] [(4,.i (jH q1 q2))] λS=>Ê<|VA _ _<|Rk S results156 ?_;exact⟨I,S.E⟩
abbrev VB{w:Á}{v:À}(h:oL base w v (-qz q)):aK base w v (wB q).1 (wB q).2.1:=by
 have e : -qz q=zv (!q.1) q.2.1:=by unfold qz; rw[Vf]
 unfold oL at h;rw[e,VD,kX]at h;exact h
abbrev ag0{w:Á}{n m:Bool}{s':À}{k:Bool}(h:aK base w (.agg #[.b n,s]) (wB q).1 (wB q).2.1)(h2:bF base w (.agg #[.b k,s',.b m,t]) q) :
  bF base w (.agg #[.b n,s,.b m,t]) (wB q):=by
 obtain⟨a,ea,ha,fa⟩:=h;obtain⟨b,c,eb,hb,hc,fb,fc⟩:=h2;simp only[Ŧ,ť,ģ,Value.bool.injEq,and_true]at ea eb;obtain⟨rfl,rfl⟩:=ea;obtain⟨rfl,rfl,rfl,rfl⟩:=eb;exact⟨s,t,I,ha,hc,fa,fc⟩
abbrev ac8(v1:À)(q1:Bool×Nat×Nat)(K1:Nat)(w:Á)(h1:dL K1 w v1 q1)(hK1:1<=K1)(hM:K1<=100000) :
  Ä prog 246 #[v1] w λe w'=>∃x,e = .R x∧bF w.heap.size w' x (wB q1)∧Ext w w':=by
 obtain⟨n1,a1,m1,c1,o1,NZ,k1,d1,rfl⟩:=h1.shape;have rE:=h1.len hK1;have Yx:=h1.pos;refine Ë func246 ntmps246 λS=>Ú S [.b n1,.s a1 m1 c1,.b o1,.s NZ k1 d1] λu b2 E3 hb4 S=>Ú S Sx.zr λu b5 E6 hb7 S=>Å S 1 [] [.M 1 0] λS=>î S (gV _ q1 K1 _ (h1.below S.E) Z) ?_;rintro e u ⟨x,rfl,hx,E9⟩;obtain⟨x1,e1,y1,f1,rfl⟩:=au.shape hx;have hz:=S.E.size;refine⟨_,I,E9,λS=>?_⟩;refine Ú S Sx.zr λu b10 BH BQ S=>è S 0 (off:=0) (cs:=[.b q1.1,.s x1 (LZ q1.2.1).length e1,.z,.s y1 (LZ q1.2.2).length f1]) I (λu C13 S=>?_);have vV:=Ö BH C13;refine Į S 5 [(8,λv w1=>oL w.heap.size w1 v (-qz q1))] (λr=>[.M 0 0,.M 0 2]) (λx=>[x 8]) (λx=>[(_,_,true,x 8,8)]) [[]] (λx=>[(8,x 8),(10,.agg #[.z,.s y1 (LZ q1.2.2).length f1])]) ⟨λ_ _ _ k h=>aK.ext h k,G⟩ (λx=>⟨by intro u hC g F; exact(EH _ _ _ _ (((hx.ext (Ã vV hC))).parts' rE).1 Z).mono λe w2 h=>by obtain⟨x,rfl,hx,hb⟩:=h; exact⟨_,I,hx.mono ((Ã S.E hC)).size,hb⟩,G⟩) (λu x LU F S=>?_);obtain⟨F8,-⟩:=F;have F8:=VB F8;obtain⟨x2,e2,em⟩:=aK.shape F8;rw[em]at S F8;try rw[em]
 have X18:=S.bx 1;refine è S 1 (off:=0) (cs:=[.b ((wB q1).1),.s x2 (LZ (wB q1).2.1).length e2,.z,.s y1 (LZ q1.2.2).length f1]) I (λu FK S=>?_);have pI:=au.dG (hx.ext (Ã vV LU)) FK X18;have FN:=aK.dG F8 FK X18;refine ă S 1 I (v := .agg #[.b ((wB q1).1),.s x2 (LZ (wB q1).2.1).length e2,.z,.s y1 (LZ q1.2.2).length f1]) (λS=>?_);exact⟨_,I,ag0 FN (au.mono pI Z),S.E⟩
abbrev ac9(v1 v2:À)(q1 q2:Bool×Nat×Nat)(K1 K2:Nat)(w:Á)(h1:dL K1 w v1 q1)(h2:dL K2 w v2 q2)(hK1:1<=K1)(hK2:1<=K2)(hM1:K1<=100000)(hM2:K2<=100000) :
  Ä prog 205 #[v1,v2] w λe w'=>∃x,e = .R x∧bF w.heap.size w' x (uh q1 q2)∧Ext w w':=by
 obtain⟨n1,a1,m1,c1,o1,NZ,k1,d1,rfl⟩:=h1.shape;have rE:=h1.len hK1;have Yx:=h1.pos;obtain⟨n2,a2,m2,c2,o2,Yy,k2,d2,rfl⟩:=h2.shape;have tH:=h2.len hK2;have HP2:=h2.pos;refine Ë func205 ntmps205 λS=>Ú S [.b n1,.s a1 m1 c1,.b o1,.s NZ k1 d1] λu b2 E3 hb4 S=>Ú S [.b n2,.s a2 m2 c2,.b o2,.s Yy k2 d2] λu b5 E6 hb7 S=>Ú S Sx.zr λu b8 E9 tX S=>Į S 4 [(7,λv w1=>bF w.heap.size w1 v (wB q2)),(8,λv w1=>bF w.heap.size w1 v (uh q1 q2))] (λr=>[.M 2 0,.M 1 0]) (λx=>[x 7,x 8]) (λx=>[(_,_,true,x 7,7),(_,_,true,x 8,8)]) [[],[7]] (λx=>[(8,x 8)]) ⟨λ_ _ _ k h=>au.ext h k,λ_ _ _ k h=>au.ext h k,G⟩ (λx=>⟨by intro u hC g F; exact(ac8 _ q2 K2 _ (h2.below (Ã S.E hC)) hK2 hM2).mono λe w2 h=>by obtain⟨x,rfl,hx,hb⟩:=h; exact⟨_,I,hx.mono ((Ã S.E hC)).size,hb⟩,by intro u hC g F; obtain⟨F7,-⟩:=F; have hc:=ac7 _ _ q1 (wB q2) K1 K2 _ (h1.below (Ã S.E hC)) (au.toQ F7 (ada h2.nrm HP2) tH) hK1 hK2 hM1 hM2; rw[adb]at hc; exact(hc).mono λe w2 h=>by obtain⟨x,rfl,hx,hb⟩:=h; exact⟨_,I,hx.mono ((Ã S.E hC)).size,hb⟩,G⟩) (λu x uM F S=>?_);obtain⟨F7,F8,-⟩:=F;obtain⟨x3,e3,y3,f3,em⟩:=au.shape F8;rw[em]at S F8;try rw[em]
 have BD:=S.bx 0;refine è S 0 (off:=0) (cs:=[.b ((uh q1 q2).1),.s x3 (LZ (uh q1 q2).2.1).length e3,.z,.s y3 (LZ (uh q1 q2).2.2).length f3]) I (λu C13 S=>?_);have sK:=au.dG F8 C13 BD;refine ă S 0 I (v := .agg #[.b ((uh q1 q2).1),.s x3 (LZ (uh q1 q2).2.1).length e3,.z,.s y3 (LZ (uh q1 q2).2.2).length f3]) (λS=>?_);exact⟨_,I,sK,S.E⟩
abbrev nG(v1:À)(q1:Bool×Nat×Nat)(K1:Nat)(w:Á)(h1:dL K1 w v1 q1)(hK1:1<=K1)(hM:K1<=100000) :
  Ä prog 202 #[v1] w (RF w (.i (bV q1:Int))):=by
 obtain⟨n1,a1,m1,c1,o1,NZ,k1,d1,rfl⟩:=h1.shape;have rE:=h1.len hK1;have Yx:=h1.pos;refine Ë func202 ntmps202 λS=>Í S λu b2 E3 hb4 S=>Å S 2 [] [.M 0 0] λS=>î S (gV _ q1 K1 _ (h1.below S.E) Z) ?_;rintro e u ⟨x,rfl,hx,E6⟩;obtain⟨x1,e1,y1,f1,rfl⟩:=au.shape hx;refine⟨_,I,E6,λS=>?_⟩;refine Í S λu b7 E8 hb9 S=>à S 0 I (λu C10 S=>?_);have BH:=Ö E8 C10;refine Ą S 7 [.M 0 0,.M 0 2,.re 12 (.i (if ((bl (q1.2.2):Nat):Int)>((bl (q1.2.1):Nat):Int)then ((bl (q1.2.2):Nat):Int)else ((bl (q1.2.1):Nat):Int))) (.i (max ((bl (q1.2.1):Nat):Int) ((bl (q1.2.2):Nat):Int)))] [(_,_,true,.i (bl (q1.2.1):Nat)),(_,_,true,.i (bl (q1.2.2):Nat))] [(12,.i (max ((bl (q1.2.1):Nat):Int) ((bl (q1.2.2):Nat):Int)))] ⟨λu hC g=>BR (wQ _ _ _ _ (((hx.ext (Ã BH hC))).parts' rE).1 Z) (by first | (rw[show(qz q1).natAbs=q1.2.1 from kX ..]) | rw[Ť]),λu hC g=>BR (wQ _ _ _ _ (((hx.ext (Ã BH hC))).parts' rE).2 Z) (by first | (rw[show(qz q1).natAbs=q1.2.1 from kX ..]) | rw[Ť]),G⟩ (hk:=⟨ade,G⟩) λu zu S=>Æ S (.i (max ((bl (q1.2.1):Nat):Int) ((bl (q1.2.2):Nat):Int))) (λS=>?_);exact⟨by unfold bV; congr 2; omega,S.E⟩
