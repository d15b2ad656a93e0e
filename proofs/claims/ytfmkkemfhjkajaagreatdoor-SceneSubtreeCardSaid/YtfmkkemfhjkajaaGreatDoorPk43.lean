/- A region that draws its order, walked order by order. No -/
import Derived.Test.YtfmkkemfhjkajaaGreatDoorScW5
set_option linter.unusedVariables false
section
namespace Go.Sx
open Go.Proofs.YtfmkkemfhjkajaaGreatDoor Go.RowKit Go.Rel
section
variable{P:Program}{os:List Oper}{Q:Exit→Act→World→Prop}{w0:World}{a:Act}{w:World}{n:Nat}{l:List (Nat×Value)}{bl:List (Nat×List Value)}{vs:List gX}
def one(os:List Oper)(i:Nat):List Oper:=(os.drop i).take 1
theorem af6{ops:Array Oper}{b:Nat}{A:List Value}(S:St w0 a w n l ((b,A)::bl) vs){wc:World}{f:FuncId}{args:Array Value}(d:Option Nat){R:Ending→World→Prop}(h0:Ext w0 wc)(hcw:Ext wc w)(hlt:∀p∈bl,p.1<wc.heap.size)(hc:Calls P f args w R)
  (next:∀e w',R e w'→∃v A',e = .returned v∧Ext wc w'∧Bx w' b (List.toArray A')∧∀a',St w0 a' w' n (XJ l d v) ((b,A')::bl) []→wpList P ops Q (os.drop 1) a' w')
  (hx:callOf P os l=some (f,args,d):=by kernel_rfl) (hd:Jt n d=true:=by rfl):wpList P ops Q os a w:=by
 cases os with
 | nil=>cases hx
 | cons o os =>
  unfold callOf at hx;simp only at hx;split at hx
  ·rename_i f' args' hg hav hev;simp only[ald,ali]at hx;obtain⟨rfl,rfl,rfl⟩:=hx;simp only[al0]at hav;have hrun:(execOp a.eval o).run P w = .ok (.enter f' args') w:=qp (Std.act a) (jH (dG S.s) o) (p:=[]) rfl hav.1 (by simpa using hav.2) hev;unfold wpList;rw[ale (by simp[Region.wanted,hg])];left;unfold Oper.wp;rw[hrun];simp only[Oper.upon];refine hc.mono fun e w' hR=>?_;obtain⟨v,A',rfl,hE,hX,hn⟩:=next e w' hR;refine hn _ ⟨DU S.s hd v,Ext.trans' h0 hE,fun p hp=>?_,S.apart,fun m hm=>(by cases hm)⟩;rcases alA.1 hp with rfl | hp
   ·exact⟨hX,(S.own _ alB).2⟩
   have h1:=S.own p (ams _ hp);have hl:=hlt p hp;exact⟨⟨alH hl hE.size,fun i=>(hE.cell (p:=⟨p.1,i,none⟩) hl).trans ((hcw.cell (p:=⟨p.1,i,none⟩) hl).symm.trans (h1.1.2.1 i)),fun i=>(hE.frozen (p:=⟨p.1,i,none⟩) hl).trans ((hcw.frozen (p:=⟨p.1,i,none⟩) hl).symm.trans (h1.1.2.2 i))⟩,h1.2⟩
  cases hx
end
end Go.Sx
end
namespace Go.Proofs.YtfmkkemfhjkajaaGreatDoor
section
open Go.RowKit
variable{α:Type}{K:Nat}
theorem XV{B b:Nat}{u1 u2 u3:World}{m:aK}(h:m.own B u1)(hE:Ext u1 u2)(hC:Ch b u2 u3)(hb:b<B∨u1.heap.size≤b) :
  m.own B u3∧m.s.ownBlock≠some b∧Sx.On (fun i=>B≤i∧i≠b∧m.s.ownBlock≠some i) (fun W=>∀n∈m.ns,n.pO B W) u3:=by
 have hr2:=Sx.iR h.row hE;have hob:m.s.ownBlock≠some b:=fun e=>by have:=Sx.iJ h.row e; omega
 have hn:Sx.On (fun i=>B≤i∧i≠b∧m.s.ownBlock≠some i) (fun W=>∀n∈m.ns,n.pO B W) u3:=fun w' hs hk =>
  h.nodes w' (alq (alq hE.size hC.size) hs) fun k h1 h2=>by
   have hkb:k≠b:=by omega
   have h3:k<u2.heap.size:=alH h1 hE.size
   exact((hk k (alH h3 hC.size) ⟨h2.1,hkb,h2.2⟩).trans (hC.block k h3 fun e=>hkb (alm e))).trans (hE.block k h1)
 exact⟨⟨Sx.l9 hr2 fun g hg=>hC.block g (Sx.iJ hr2 hg).2 fun e=>hob (hg.trans e),hn.mono fun i hi=>⟨hi.1,hi.2.2⟩⟩,hob,hn⟩
theorem own_base{B B' b:Nat}{u:World}{m:aK}(hB:B'≤B)(h:m.own B u∧m.s.ownBlock≠some b∧Sx.On (fun i=>B≤i∧i≠b∧m.s.ownBlock≠some i) (fun W=>∀n∈m.ns,n.pO B W) u) :
  m.own B' u∧m.s.ownBlock≠some b∧Sx.On (fun i=>B'≤i∧i≠b∧m.s.ownBlock≠some i) (fun W=>∀n∈m.ns,n.pO B' W) u:=
 ⟨⟨eX h.1.row hB,(h.1.nodes.mono fun i hi=>⟨alq hB hi.1,hi.2⟩).imp fun _ k n hn=>vP (k n hn) hB⟩,h.2.1,(h.2.2.mono fun i hi=>⟨alq hB hi.1,hi.2⟩).imp fun _ k n hn=>vP (k n hn) hB⟩
def RD(base:Nat)(K:Nat)(s:aK)(e:bf)(code:Int)(t:aK)(w:World):Prop:=
 (t.key,code)=jw s.key e.key∧fV base t.s t.ns w∧bU K w t∧∀n∈t.ns,n.TP K
theorem tu{base:Nat}{s:aK}{e:bf}{code:Int}{w:World}(h:jw s.key e.key=(.zero,code)):RD base K s e code .zero w:=
 ⟨h.symm,alG (alZ (f:=aj.cells) (L:=[]) (fun _=>rfl) ⟨rfl,.inl ⟨rfl,rfl⟩⟩ rfl rfl) (fun _ _ _ n hn=>by cases hn),GN w,fun n hn=>(by cases hn)⟩
theorem acs{s:aK}{e:bf}{code:Int}{m t:aK}(hd:I64 e.depth)(hv:s.key.valid=true)(hn:e.key.named=true)(hk:keys m.ns=keys s.ns)(hr:aaQ m e code t)(hc:code≠0):jw s.key e.key=(.zero,code):=by
 rw[←JE hd];unfold LC;rw[ak9 (by simp[hv]),ak9 (by simp[hn])];have h1:=hr.1;rw[hk]at h1;rw[show s.key.ns=keys s.ns from rfl];cases hp:fP (keys s.ns) e.key with
 | error n=>rw[hp]at h1; rw[show code=n from h1]
 | ok l=>rw[hp]at h1; exact absurd h1.1 hc
theorem aaR{s:aK}{e:bf}{m t:aK}(hd:I64 e.depth)(hv:s.key.valid=true)(hn:e.key.named=true)(hk:keys m.ns=keys s.ns)(h3:m.w=s.w∧m.h=s.h∧m.bg=s.bg)(hr:aaQ m e 0 t)(hne:∀n,fP (keys s.ns) e.key = .error n→n≠0):jw s.key e.key=if t.key.chk.1=0 then (t.key,0)else (.zero,t.key.chk.1):=by
 rw[←JE hd];unfold LC;rw[ak9 (by simp[hv]),ak9 (by simp[hn])];have h1:=hr.1;rw[hk]at h1;rw[show s.key.ns=keys s.ns from rfl];cases hp:fP (keys s.ns) e.key with
 | error n=>rw[hp]at h1; exact absurd h1.symm (hne n hp)
 | ok l =>
  rw[hp]at h1;have ht:s.key.with' e.key l=t.key:=by
   unfold aN.with' aK.key;rw[hr.2.1,hr.2.2,h1.2.2,←h1.2.1,h3.1,h3.2.1,h3.2.2];rfl
  simp only[ht]
theorem Ho{l:List aI}{e:gI}{n:Int}(h:fP l e = .error n):n≠0:=by
 unfold fP lG at h;(repeat' split at h)<;>first | (cases h; decide) | cases h
set_option maxRecDepth 100000 in
set_option maxHeartbeats 3200000 in
theorem CX{w:World}{s:aK}{e:bf}(h:bU K w s)(hg:jL w)(he:wU K w e)(hlim:∀n∈s.ns,n.lim)(hel:e.node.lim) :
  Calls Tryz.prog 17 #[s.v,e.v] w fun r w'=>∃(t:aK) (code:Int),r = .returned (.tuple #[t.v,.i code])∧RD w.heap.size K s e code t w'∧Ext w w':=by
 skip;refine akN Tryz.func17 Tryz.ntmps17 fun ac S=>akJ fun _ aS=>akK S 2 s.cells fun ac u b2 E3 hb4 S=>akK S 3 e.cells fun ac u b5 E6 hb7 S=>akK S 4 [.i 0,.i 0,.int .u8 0,.int .u8 0,.int .u8 0,.int .u8 0,.slice none 0 0] fun ac u b8 E9 wG S=>adr S 1 [] [(5,.i 0)] fun S=>akI<|aS _ _<|ak6 fun _ dn=>akJ fun _ cO=>adr S 1 [.mem 2 0] [(8,s.v)] fun S=>akQ S 9 (pV (h.below S.E) (hg.below S.E)) fun ac u DN S=>adr S 1 [] [(10,.bool (!s.key.valid))] fun S=>akI (cO _ _ ?_);refine akL S (fun oz=>?_) (fun oz=>?_)
 ·refine akJ fun _ fJ=>adr S 1 [] [(11,.agg #[.i 0,.i 0,.int .u8 0,.int .u8 0,.int .u8 0,.int .u8 0,.slice none 0 0])] fun S=>akO S 0 (off:=0) (cs:=[.i 0,.i 0,.int .u8 0,.int .u8 0,.int .u8 0,.int .u8 0,.slice none 0 0]) rfl fun u Qy S=>adr S 1 [] [(5,.i 18)] fun S=>akI<|fJ _ _<|ala ?_;refine Sx.PO S 0 Tryz.results17 rfl (v := .agg (aK.cells .zero).toArray) (u := .i 18) ⟨.zero,_,rfl,tu (by unfold jw; rw[ale (by simpa using oz)]),S.E⟩
 refine ak7<|dn _ _<|ak6 fun _ gJ=>akJ fun _ jh=>adr S 1 [.mem 1 0] [(12,e.v)] fun S=>akQ S 13 (XU (he.below S.E)) fun ac u MS S=>adr S 1 [] [(14,.bool (!e.key.named))] fun S=>akI (jh _ _ ?_);refine akL S (fun wL=>?_) (fun wL=>?_)
 ·refine akJ fun _ jI=>adr S 1 [] [(15,.agg #[.i 0,.i 0,.int .u8 0,.int .u8 0,.int .u8 0,.int .u8 0,.slice none 0 0])] fun S=>akO S 0 (off:=0) (cs:=[.i 0,.i 0,.int .u8 0,.int .u8 0,.int .u8 0,.int .u8 0,.slice none 0 0]) rfl fun u C22 S=>adr S 1 [] [(5,.i 2)] fun S=>akI<|jI _ _<|ala ?_;refine Sx.PO S 0 Tryz.results17 rfl (v := .agg (aK.cells .zero).toArray) (u := .i 2) ⟨.zero,_,rfl,tu (by unfold jw; rw[ak9 (by have:=oz; simp at this; simp[this]),ale (by simpa using wL)]),S.E⟩
 refine ak7<|gJ _ _<|akJ (fun _ lX=>?_);have hE0:=S.E;have aaS:=(S.bx 0).1;have af7:=(S.bx 1).1;have ael:=(S.bx 2).1;obtain⟨wc,hwc⟩:∃z:World,z=u:=⟨_,rfl⟩;rw[←hwc]at hE0 aaS af7 ael;have hcw:Ext wc u:=hwc▸Ext.rfl';have hv:s.key.valid=true:=by simpa using oz
 have hno:e.key.named=true:=by simpa using wL
 have hsl:s.ns.length≤64:=by have:=(aN.qX.1 hv).2.1; rwa [show s.key.ns.length=s.ns.length from al6 ..]at this
 refine adr S 1 [.mem 2 0] [(16,s.v)] (fun S=>?_);have hwl:=(hcw).size;refine akS S (some 17) (Dy (h.below S.E) hlim (by omega)) ?_;rintro e u ⟨m,rfl,hmo,hms,hmw,hmh,hmb,S9⟩;refine⟨_,rfl,S9,fun ac S=>?_⟩;have hwz:=((Ext.trans' hcw S9)).size;refine akK S 6 [.i 0,.i 0,.int .u8 0,.int .u8 0,.int .u8 0,.int .u8 0,.slice none 0 0] (fun ac u b25 Yz Ir S=>?_);have hge:wc.heap.size≤b25:=by omega
 refine akO S 0 (off:=0) (cs:=m.cells) rfl (fun u C28 S=>?_);have Bz:=akR (Ext.trans' S9 Yz) C28 (by have:=S9.size; omega);refine akI<|lX _ _<|akJ (fun _ nN=>?_);have hmw:=And.intro hmw (And.intro hmh hmb);refine adr S 1 [.mem 2 0] [(18,e.v)] (fun S=>?_);have aeM:=(own_base hwl (XV hmo Yz C28 (.inr (Nat.le_of_eq Ir.symm))));have hml:m.ns.length=s.ns.length:=by have:=alb List.length hms; simpa using this
 refine Sx.af6 S (some 19) hE0 ((Ext.trans' hcw Bz)) (fun p hp=>by rcases alA.1 hp with rfl | hp; exact aaS; rcases alA.1 hp with rfl | hp; exact af7; rcases alA.1 hp with rfl | hp; exact ael; cases hp) (TR (K:=K) (w0:=wc) ((Ext.trans' hcw Bz)) (S.bx 0) hge aeM.1 aeM.2.1 aeM.2.2 (fun n hn=>⟨fits_all hms (fun n hn=>(h.2.2.2 n hn).2) n hn,He hms hlim n hn⟩) (he.below hE0) hel (by omega)) ?_;rintro r u ⟨code,t,rfl,hE2,hX,hcp,hft,hres⟩;refine⟨_,t.cells,rfl,hE2,hX,fun ac S=>?_⟩;have htw:I64 t.w∧I64 t.h:=by rw[hres.2.1,hres.2.2,hmw.1,hmw.2.1]; exact⟨h.1,h.2.1⟩
 have hkm:keys m.ns=keys s.ns:=vN hms;refine adr S 1 [] [(7,.i code)] fun S=>akI<|nN _ _<|ak6 fun _ oL=>akJ fun _ kP=>adr S 2 [] [(21,.bool ((code)==0))] fun S=>akI (kP _ _ ?_);refine akL S (fun oh=>?_) (fun oh=>?_)
 ·refine alc<|adr S 1 [.mem 0 0] [(23,t.v)] fun S=>akQ S 24 (wV (K:=K) (s:=t) ⟨htw.1,htw.2,fV.ok (hcp) fun n hn=>(hft n hn).1⟩ (hg.below S.E)) fun ac u Ux S=>adr S 4 [] [(7,.i t.key.chk.1)] fun S=>akI<|oL _ _<|ak6 fun _ lY=>akJ fun _ lZ=>adr S 2 [] [(28,.bool ((t.key.chk.1) != 0))] fun S=>akI (lZ _ _ ?_);refine akL S (fun mD=>?_) (fun mD=>?_)
  ·refine akJ fun _ iW=>adr S 2 [] [(29,.agg #[.i 0,.i 0,.int .u8 0,.int .u8 0,.int .u8 0,.int .u8 0,.slice none 0 0]),(30,.i t.key.chk.1)] fun S=>akO S 1 (off:=0) (cs:=[.i 0,.i 0,.int .u8 0,.int .u8 0,.int .u8 0,.int .u8 0,.slice none 0 0]) rfl (fun u C39 S=>?_);have Zk:=dW.ch (amZ hcp Ux) C39 aaS;refine adr S 1 [] [(5,.i t.key.chk.1)] fun S=>akI<|iW _ _<|ala ?_;have hc0:code=0:=by simpa using oh
   have hap:=aaR he.2.2.2.1 hv hno hkm hmw (hc0▸hres) fun n h=>Ho h;refine Sx.PO S 1 Tryz.results17 rfl (v := .agg (aK.cells .zero).toArray) (u := .i t.key.chk.1) ⟨.zero,_,rfl,tu (by rw[hap,ak9 (by simpa using mD)]),S.E⟩
  refine ak7<|lY _ _<|akJ fun _ rF=>adr S 1 [.mem 0 0] [(31,t.v)] fun S=>akO S 1 (off:=0) (cs:=t.cells) rfl (fun u C42 S=>?_);have Iw:=dW.ch (amZ hcp Ux) C42 aaS;refine adr S 1 [] [(5,.i 0)] fun S=>akI<|rF _ _<|ala ?_;have hc0:code=0:=by simpa using oh
  have hap:=aaR he.2.2.2.1 hv hno hkm hmw (hc0▸hres) fun n h=>Ho h;refine Sx.PO S 1 Tryz.results17 rfl (v := .agg (aK.cells t).toArray) (u := .i 0) ⟨t,_,rfl,⟨by rw[hap,ale (by simpa using mD)],fV.le (Iw) hE0.size,⟨htw.1,htw.2,fV.ok (Iw) fun n hn=>(hft n hn).1⟩,hft⟩,S.E⟩
 refine ak7<|oL _ _<|ak6 fun _ wP=>akJ (fun _ zy=>?_);have hne:((code) != 0)=true:=by have:=oh; simpa using this
 refine adr S 2 [] [(28,.bool ((code) != 0))] fun S=>akI (zy _ _ ?_);refine akL S (fun DX=>?_) (fun DX=>?_)
 ·refine akJ fun _ yJ=>adr S 2 [] [(29,.agg #[.i 0,.i 0,.int .u8 0,.int .u8 0,.int .u8 0,.int .u8 0,.slice none 0 0]),(30,.i code)] fun S=>akO S 1 (off:=0) (cs:=[.i 0,.i 0,.int .u8 0,.int .u8 0,.int .u8 0,.int .u8 0,.slice none 0 0]) rfl (fun u C48 S=>?_);have Ny:=dW.ch hcp C48 aaS;refine adr S 1 [] [(5,.i code)] fun S=>akI<|yJ _ _<|ala ?_;refine Sx.PO S 1 Tryz.results17 rfl (v := .agg (aK.cells .zero).toArray) (u := .i code) ⟨.zero,_,rfl,tu (acs he.2.2.2.1 hv hno hkm hres (by simpa using hne)),S.E⟩
 rw[hne]at DX; cases DX
end
section
open Go.RowKit
variable{α:Type}{K:Nat}
theorem all_nil{s m:aK}{es:List bf}{k:Nat}(hR:fC s.key (es.map bf.key) 0=fC m.key ((es.map bf.key).drop k) k)(hk:es.length≤k):fC s.key (es.map bf.key) 0=(m.key,(k:Int),0):=by
 rw[hR,amd (by simpa using hk)]; rfl
theorem all_cons{s m t:aK}{es:List bf}{e:bf}{code:Int}{k:Nat}(hR:fC s.key (es.map bf.key) 0=fC m.key ((es.map bf.key).drop k) k)(hk:k<es.length)(he:es[k]=e)(h:(t.key,code)=jw m.key e.key) :
  fC s.key (es.map bf.key) 0=if code=0 then fC t.key ((es.map bf.key).drop (k+1)) (k+1)else (.zero,(k:Int),code):=by
 rw[hR,al8 (by simpa using hk),List.getElem_map,he];unfold fC;rw[←h];cases hc:(es.map bf.key).drop (k+1)<;>rfl
end
section
theorem IsTree.aeN{n:Nat}{f:Nat→Int}(T:IsTree n f){k i:Nat}(hk:k<n)(h:sD f k=(i:Int)):uK n f k≤uK n f i:=by
 obtain⟨h1,h2,h3⟩:=(T.aaJ hk).1 h;obtain⟨a1,a2,a3,a4⟩:=rD (n:=n) (f:=f) (i:=i) (by omega);obtain⟨b1,b2,b3,b4⟩:=rD (n:=n) (f:=f) hk;by_cases hx:uK n f k≤uK n f i
 ·exact hx
 have:=b3 (uK n f i) h2 (by omega);have:=a4 (by omega);omega
theorem IsTree.aaT{n:Nat}{f:Nat→Int}(T:IsTree n f){m k:Nat}(hk:k<n)(hm:f k<m):((Bd f m k).length:Int)=f k+1:=by
 rw[T.aaK m k hk hm,al6,List.length_range];have:=T.nn k hk;omega
structure Way (n:Nat) (f:Nat→Int) (L:List Nat) (k:Nat):Prop where
 last:L.getLast?=some k
 head:∀(h:0<L.length),sD f L[0] = -1
 lt:∀x∈L,x<n
 next:∀j (h:j+1<L.length),sD f L[j+1]=(L[j]:Int)∧uK n f L[j+1]≤uK n f L[j]
theorem IsTree.way{n:Nat}{f:Nat→Int}(T:IsTree n f):∀(m k:Nat),k<n→f k<m→Way n f (Bd f m k) k
 | 0,k,hk,h=>by have:=T.nn k hk; omega
 | m+1,k,hk,h=>by
  rcases Int.lt_or_le 0 (f k)with h0 | h0
  ·obtain⟨j,h1,h2,h3⟩:=T.VD hk h0
   have e:Bd f (m+1) k=Bd f m j++[k]:=by
    show(if sD f k<0 then []else Bd f m (sD f k).toNat)++[k]=_
    rw[h1,ak9 (by omega),anu]
   have ih:=T.way m j (by omega) (by omega)
   have hlen:=T.aaT (m:=m) (k:=j) (by omega) (by omega)
   have hnn:=T.nn j (by omega)
   rw[e]
   refine⟨List.getLast?_concat ..,fun hp=>?_,fun x hx=>?_,fun i hi=>?_⟩
   ·rw[anA (by omega)]
    exact ih.head _
   ·rcases alX.1 hx with hx | hx
    ·exact ih.lt x hx
    ·rw[al7.1 hx]; exact hk
   ·rw[amC,anG]at hi
    by_cases hl:i+1<(Bd f m j).length
    ·rw[anA hl,anA (by omega)]
     exact ih.next i hl
    ·have e2:(Bd f m j++[k])[i+1]'(by rw[amC,anG]; omega)=k:=by
      rw[List.getElem_append_right (by omega)]; simp
     have e3:(Bd f m j++[k])[i]'(by rw[amC,anG]; omega)=j:=by
      rw[anA (by omega)]
      have:=ih.last
      rw[List.getLast?_eq_getElem?,List.getElem?_eq_getElem (by omega)]at this
      have h5:=alm this
      have h6:i=(Bd f m j).length-1:=by omega
      subst h6
      exact h5
     rw[e2,e3]
     exact⟨h1,T.aeN hk h1⟩
  ·have hz:f k=0:=by have:=T.nn k hk; omega
   have hp:=(T.par_none hk).2 hz
   have e:Bd f (m+1) k=[k]:=by
    show(if sD f k<0 then []else Bd f m (sD f k).toNat)++[k]=_
    rw[hp,ale (by decide)]; rfl
   rw[e]
   refine⟨rfl,fun _=>hp,fun x hx=>by rw[al7.1 hx]; exact hk,fun i hi=>?_⟩
   rw[anG]at hi; omega
end
end Go.Proofs.YtfmkkemfhjkajaaGreatDoor
section
namespace Go.Sx
open Go.Proofs.YtfmkkemfhjkajaaGreatDoor Go.RowKit Go.Rel
structure Rl (kp:TypeId→Nat→Bool) (base:Nat) (w w':World):Prop where
 bel:Below base w w'
 obj:∀(g:Nat) (cur:Array Value) (e:TypeId),w.heap[g]?=some (.cells cur e (0,0))→∃cur':Array Value,w'.heap[g]?=some (.cells cur' e (0,0))∧cur'.size=cur.size∧∀i:Nat,kp e i=true→cur'[i]?=cur[i]?
section
variable{kp:TypeId→Nat→Bool}{base:Nat}{w w' w2:World}
theorem Rl.refl:Rl kp base w w:=⟨alD _ _,fun g cur e h=>⟨cur,h,rfl,fun _ _=>rfl⟩⟩
theorem Rl.trans(h:Rl kp base w w')(k:Rl kp base w' w2):Rl kp base w w2:=⟨h.bel.trans k.bel,fun g cur e hg=>by
 obtain⟨c1,h1,h2,h3⟩:=h.obj g cur e hg;obtain⟨c2,k1,k2,k3⟩:=k.obj g c1 e h1;exact⟨c2,k1,k2.trans h2,fun i hi=>(k3 i hi).trans (h3 i hi)⟩⟩
theorem Rl.ext(h:Rl kp base w w')(hE:Ext w' w2)(hb:base≤w'.heap.size):Rl kp base w w2:=h.trans ⟨⟨hE.os,hE.tape,hE.output,hE.size,fun k hk=>hE.block k (alH hk hb)⟩,fun g cur e hg=>⟨cur,(hE.block g (oW hg).1).trans hg,rfl,fun _ _=>rfl⟩⟩
theorem Rl.ext'(h:Rl kp base w w')(hE:Ext w' w2)(hb:base≤w.heap.size):Rl kp base w w2:=h.ext hE (alq hb h.bel.size)
theorem Rl.set{g off:Nat}{cur:Array Value}{e:TypeId}{cs:List Value}(h:w.heap[g]?=some (.cells cur e (0,0)))(hb:base≤g)(hf:off+cs.length≤cur.size)(hk:∀j,j<cs.length→kp e (off+j)=false):Rl kp base w (w.setCells g off cs):=by
 have hc:Ch g w (w.setCells g off cs):=(Ch.refl g w).setCells cs off;refine⟨hc.below hb (alq hb (amX (oW h).1)),fun g' cur' e' hg'=>?_⟩;by_cases hgg:g'=g
 ·subst hgg;rw[h]at hg';simp only[ald,Obj.cells.injEq,and_true]at hg';obtain⟨rfl,rfl⟩:=hg';refine⟨_,vI g' e (0,0) cs off w cur h hf,by unfold spl; simp; omega,fun i hi=>?_⟩;rw[List.getElem?_toArray];unfold spl;rw[List.getElem?_append,List.getElem?_append];simp only[amC,amR,Array.length_toList,List.getElem?_take,List.getElem?_drop];rw[amG (by omega)];by_cases h1:i<off
  ·simp[h1,show i<off+cs.length by omega]
  by_cases h2:i<off+cs.length
  ·exfalso;have:=hk (i-off) (by omega);rw[show off+(i-off)=i by omega,hi]at this;cases this
  simp[h2,show off+cs.length+(i-(off+cs.length))=i by omega]
 exact⟨cur',(hc.block g' (oW hg').1 fun e=>hgg (alm e)).trans hg',rfl,fun _ _=>rfl⟩
theorem Ty.now{k n:Nat}{e:TypeId}{v:Value}(h:Ty e k base v n w)(hR:Rl kp base w w')(hn:0<n):∃g cap,v = .slice (some ⟨g,0,none⟩) n cap∧base≤g∧g<w.heap.size∧∃cur,w'.heap[g]?=some (.cells cur e (0,0))∧n*k≤cur.size:=by
 rcases h with h | ⟨g,cap,cur,h1,h2,h3,h4⟩
 ·omega
 obtain⟨c,h5,h6,-⟩:=hR.obj g cur e h3;exact⟨g,cap,h1,h2,(oW h3).1,c,h5,by rw[h6]; exact h4⟩
theorem jv.now{α:Type}{k:Nat}{e:TypeId}{f:α→List Value}{v:Value}{L:List α}(h:jv e k f base v L w)(hR:Rl kp base w w'){i:Nat}(hi:i<L.length)(j m:Nat){cs:List Value}(hm:j+cs.length≤k)(hc:((f L[i]).drop j).take cs.length=cs)(hk:∀q,q<cs.length→kp e (i*k+j+q)=true){g cap:Nat}(hv:v = .slice (some ⟨g,0,none⟩) L.length cap):w'.rangeAt g (0+i*k+j) cs:=by
 subst hv;obtain⟨hrow,hty⟩:=h;rcases hty with hty | ⟨g',cap',cur,h1,h2,h3,h4⟩
 ·omega
 simp only[alF,ald,amw,and_true,true_and]at h1;obtain⟨rfl,rfl⟩:=h1;obtain⟨c,h5,h6,h7⟩:=hR.obj g cur e h3;obtain⟨a,cp,hv,hm2,⟨rfl,_⟩ | ⟨b,o,rfl,hb,hl,hcell⟩⟩:=hrow
 ·simp at hi
 simp only[alF,ald,amw,and_true,true_and]at hv;obtain⟨⟨rfl,rfl⟩,rfl⟩:=hv;intro q u hq;have hql:q<cs.length:=by
  by_cases h:q<cs.length
  ·exact h
  rw[List.getElem?_eq_none (by omega)]at hq; cases hq
 have h8:=hcell i hi (j+q) (by omega);rw[(oW h3).2.1]at h8;have h9:=h7 (i*k+j+q) (hk q hql);rw[(oW h5).2.1,show 0+i*k+j+q=i*k+j+q by omega,h9,show i*k+j+q=0+i*k+(j+q) by omega,h8];rw[←hc,List.getElem?_take_of_lt hql,List.getElem?_drop]at hq;exact hq
variable{P:Program}{ops:Array Oper}{Q:Exit→Act→World→Prop}{w0:World}{a:Act}{os:List Oper}{n:Nat}{l:List (Nat×Value)}{bl:List (Nat×List Value)}{vs:List gX}
theorem St.afU{g off:Nat}{cur:Array Value}{e:TypeId}{cs:List Value}(S:St w0 a w n l bl vs)(h:w.heap[g]?=some (.cells cur e (0,0)))(hb:w0.heap.size≤g)(hne:∀p∈bl,p.1≠g):St w0 a (w.setCells g off cs) n l bl []:=by
 have hc:Ch g w (w.setCells g off cs):=(Ch.refl g w).setCells cs off;exact⟨S.s,nS S.E hb cs off,fun p hp=>⟨(S.own p hp).1.ch hc (hne p hp),(S.own p hp).2⟩,S.apart,fun m hm=>by cases hm⟩
def cut(base:Nat)(w:World):World:={ w with heap:=w.heap.extract 0 base }
theorem PS(hb:base≤w.heap.size):(cut base w).heap.size=base:=by unfold cut; simp; omega
theorem acu(hb:base≤w.heap.size):Ext (cut base w) w:=⟨rfl,rfl,rfl,by rw[PS hb]; exact hb,fun k hk=>by
 rw[PS hb]at hk;unfold cut;rw[Array.getElem?_extract];simp; omega⟩
theorem St.from(S:St w a w n l [] [])(hb:base≤w.heap.size):St (cut base w) a w n l [] []:=⟨S.s,acu hb,fun p hp=>(by cases hp),S.apart,fun m hm=>(by cases hm)⟩
end
end Go.Sx
end
section
namespace Go.Sx
open Go.Proofs.YtfmkkemfhjkajaaGreatDoor Go.RowKit Go.Rel
section
variable{w0 w w1 w2:World}{a a0:Act}{n:Nat}{l l0:List (Nat×Value)}{bl:List (Nat×List Value)}{vs vs0:List gX}
theorem St.re(S:St w0 a w n l bl vs):St w a w n l [] (lH bl vs):=⟨S.s,Ext.rfl',fun p hp=>(by cases hp),List.nodup_nil,fun m hm=>⟨S.BX m hm,fun p hp=>(by cases hp)⟩⟩
theorem St.back(S0:St w0 a0 w1 n l0 bl vs0)(S:St w2 a w n l [] vs)(h:Ext w1 w2):St w0 a w n l bl []:=
 have hE:Ext w1 w:=Ext.trans' h S.E
 ⟨S.s,(S0.grow hE).E,(S0.grow hE).own,S0.apart,fun m hm=>by cases hm⟩
end
theorem yD{n:Nat}(h:1≤n)(h2:n≤9223372036854775807):Value.i (IntKind.i64.wrap ((n:Int)-1)) = .i (n-1:Nat):=by
 have:IntKind.i64.wrap ((n:Int)-1)=((n-1:Nat):Int):=by rw[amN]; omega
 rw[this]
end Go.Sx
end
section
namespace Go.Proofs.YtfmkkemfhjkajaaGreatDoor
open Go.RowKit
variable{α:Type}{K:Nat}
structure jd where
 a:Option Addr
 l:List aj
def jd.v(t:jd):Value := .slice t.a t.l.length t.l.length
abbrev jd.key (t:jd):List aI:=keys t.l
abbrev LK (K:Nat)(w:World)(v:Value)(l:List jd):Prop:=aP 1 (fun t=>[t.v]) w v l∧∀t∈l,jo K w t.v t.l
theorem LK.below{w w':World}{v:Value}{l:List jd}(h:LK K w v l)(hb:Ext w w'):LK K w' v l:=⟨h.1.below hb,fun t ht=>(h.2 t ht).below hb⟩
structure LM (K:Nat) (w:World) (L:List aj) (i:Nat) (ts:List jd):Prop where
 le:i≤L.length
 key:Ci (keys L)=ts.map jd.key++Ci ((keys L).drop i)
 flat:(ts.map jd.l).flatten=L.take i
 ok:∀t∈ts,jo K w t.v t.l
 len:ts.length≤i
 ne:∀t∈ts,0<t.l.length
theorem acv{β:Type}(p:β→Bool)(X:List β):X.take (X.takeWhile p).length=X.takeWhile p∧X.drop (X.takeWhile p).length=X.dropWhile p:=by
 have h:=List.takeWhile_append_dropWhile (p:=p) (l:=X);generalize X.takeWhile p=A at *;generalize X.dropWhile p=B at *;subst h;exact⟨List.take_left,List.drop_left⟩
theorem TS{l:List aI}{i:Nat}(hi:i<l.length):Ci (l.drop i)=((l.drop i).take (dU l i-i))::Ci (l.drop (dU l i)):=by
 have hd:l.drop i=l[i]::l.drop (i+1):=(anx hi).symm;have h1:=qP hi;have e:dU l i-i=((l.drop (i+1)).takeWhile fun κ=>decide (l[i].depth<κ.depth)).length+1:=by
  unfold dU; rw[pG hi]; omega
 obtain⟨t1,t2⟩:=acv (fun κ:aI=>decide (l[i].depth<κ.depth)) (l.drop (i+1));rw[show l.drop (dU l i)=(l.drop (i+1)).drop (dU l i-i-1) by rw[anm]; congr 1; omega,e,Nat.add_sub_cancel,hd,TL,List.take_succ_cons,t1,t2]
theorem LP{w:World}{a:Option Addr}{L:List aj}{c i j:Nat}(h:jo K w (.slice a L.length c) L)(hi:i≤j)(hj:j≤L.length):jo K w (.slice (Sx.wu a i j 47) (j-i) (j-i)) ((L.drop i).take (j-i)):=
 ⟨Sx.oQ h.1 hi hj (alf j) (alq hj (Sx.lN h.1)),fun n hn=>h.2 n (am7 (anp hn))⟩
theorem LM.step{w:World}{a:Option Addr}{L:List aj}{c i:Nat}{ts:List jd}(h:jo K w (.slice a L.length c) L)(hT:LM K w L i ts)(hi:i<L.length) :
  LM K w L (dU (keys L) i) (ts++[⟨Sx.wu a i (dU (keys L) i) 47,(L.drop i).take (dU (keys L) i-i)⟩]):=by
 have hi':i<(keys L).length:=by simpa using hi
 obtain⟨h1,h2⟩:=qP hi';have h3:dU (keys L) i≤L.length:=by simpa using h2
 refine⟨h3,?_,?_,fun t ht=>?_,?_,fun t ht=>?_⟩
 ·rw[hT.key,TS hi',alV,List.map_singleton,amS,List.singleton_append];show _=_++((L.drop i).take _).map _::_;rw[anf,List.map_drop]
 ·rw[alV,List.flatten_append,hT.flat,List.map_singleton,List.flatten_singleton];conv=>rhs; rw[show dU (keys L) i=i+(dU (keys L) i-i) by omega,List.take_add]
 ·rcases alX.1 ht with ht | ht
  ·exact hT.ok t ht
  rw[al7.1 ht];have:=LP h (i:=i) (j:=dU (keys L) i) (by omega) h3;unfold jd.v;rwa [show((L.drop i).take (dU (keys L) i-i)).length=dU (keys L) i-i by simp; omega]
 ·rw[amC,anG]; have:=hT.len; omega
 rcases alX.1 ht with ht | ht
 ·exact hT.ne t ht
 rw[al7.1 ht]; simp; omega
theorem PU:∀{x y:List (List aI)} {p:Nat},p≤x.length→p≤y.length→x.take p=y.take p→(∀(hx:p<x.length) (hy:p<y.length),x[p]≠y[p])→pK x y=p
 | [],y,p,h1,_,_,_=>by
  obtain rfl:p=0:=by simpa using h1
  simp[pK]
 | x::a,[],p,_,h2,_,_=>by
  obtain rfl:p=0:=by simpa using h2
  simp[pK]
 | x::a,y::b,0,_,_,_,h=>by
  unfold pK
  have:=h (by simp) (by simp)
  simp only[List.getElem_cons_zero]at this
  rw[ak9 this]
 | x::a,y::b,p+1,h1,h2,h3,h4=>by
  rw[List.take_succ_cons,List.take_succ_cons,alU]at h3
  unfold pK
  rw[ale h3.1,PU (by simpa using h1) (by simpa using h2) h3.2 fun hx hy=>by
   have:=h4 (by simpa using hx) (by simpa using hy)
   simpa using this]
theorem rev_at{x:List (List aI)}{p q:Nat}(h:q+p<x.length):∃h2:q<(x.drop p).reverse.length,(x.drop p).reverse[q]=x[x.length-1-q]'(by omega):=by
 refine⟨by simp; omega,?_⟩;rw[List.getElem_reverse,List.getElem_drop];congr 1;simp only[anz]; omega
abbrev nI (l:List jd):List (List aI):=l.map jd.key
theorem VF{l:List jd}{k:Nat}{x:jd}(h:k<l.length)(hx:l[k]=x):(nI l)[k]'(by simpa using h)=x.key:=by simp[hx]
structure IU (l m:List jd) (p:Nat):Prop where
 l1:p≤l.length
 l2:p≤m.length
 e:(nI l).take p=(nI m).take p
theorem IU.zero(l m:List jd):IU l m 0:=⟨alg _,alg _,rfl⟩
theorem IU.step{l m:List jd}{p:Nat}(h:IU l m p)(h1:p<l.length)(h2:p<m.length){x y:jd}(hx:l[p]=x)(hy:m[p]=y)(he:decide (keys x.l=keys y.l)=true):IU l m (p+1):=by
 refine⟨h1,h2,?_⟩;rw[alY (by simpa using h1),alY (by simpa using h2),h.e,VF h1 hx,VF h2 hy];have:=alj he;rw[show x.key=y.key from this]
theorem IU.full{l m:List jd}{p:Nat}(h:IU l m p)(hn:¬p<min l.length m.length):pK (nI l) (nI m)=p:=
 PU (by simpa using h.l1) (by simpa using h.l2) h.e fun hx hy=>by simp at hx hy; omega
theorem IU.no{l m:List jd}{p:Nat}(h:IU l m p)(h1:p<l.length)(h2:p<m.length){x y:jd}(hx:l[p]=x)(hy:m[p]=y)(he:decide (keys x.l=keys y.l)=false):pK (nI l) (nI m)=p:=
 PU (by simpa using h.l1) (by simpa using h.l2) h.e fun _ _=>by
  rw[VF h1 hx,VF h2 hy]
  exact alo he
structure Bj (l m:List jd) (p q:Nat):Prop where
 l1:q+p≤l.length
 l2:q+p≤m.length
 e:((nI l).drop p).reverse.take q=((nI m).drop p).reverse.take q
theorem Bj.zero{l m:List jd}{p:Nat}(h:IU l m p):Bj l m p 0:=⟨by have:=h.l1; omega,by have:=h.l2; omega,rfl⟩
theorem Bj.at{l:List jd}{p q:Nat}{x:jd}(h:q+p<l.length)(hx:l[l.length-1-q]'(by omega)=x):∃h2:q<((nI l).drop p).reverse.length,((nI l).drop p).reverse[q]=x.key:=by
 obtain⟨h2,h3⟩:=rev_at (x:=nI l) (p:=p) (q:=q) (by simpa using h);refine⟨h2,h3.trans ?_⟩;rw[List.getElem_map];simp only[al6,hx]
theorem Bj.step{l m:List jd}{p q:Nat}(h:Bj l m p q)(h1:q+p<l.length)(h2:q+p<m.length){x y:jd}(hx:l[l.length-1-q]'(by omega)=x)(hy:m[m.length-1-q]'(by omega)=y)(he:decide (keys x.l=keys y.l)=true):Bj l m p (q+1):=by
 obtain⟨a1,a2⟩:=Bj.at h1 hx;obtain⟨b1,b2⟩:=Bj.at h2 hy;refine⟨by omega,by omega,?_⟩;rw[alY a1,alY b1,h.e,a2,b2,show x.key=y.key from alj he]
theorem Bj.full{l m:List jd}{p q:Nat}(h:Bj l m p q)(hp:pK (nI l) (nI m)=p)(hn:¬q+p<min l.length m.length):qK (nI l) (nI m)=q:=by
 unfold qK;rw[hp];refine PU ?_ ?_ h.e fun hx hy=>?_
 ·have:=h.l1; simp; omega
 ·have:=h.l2; simp; omega
 simp at hx hy; omega
theorem Bj.no{l m:List jd}{p q:Nat}(h:Bj l m p q)(hp:pK (nI l) (nI m)=p)(h1:q+p<l.length)(h2:q+p<m.length){x y:jd}(hx:l[l.length-1-q]'(by omega)=x)(hy:m[m.length-1-q]'(by omega)=y)(he:decide (keys x.l=keys y.l)=false):qK (nI l) (nI m)=q:=by
 obtain⟨a1,a2⟩:=Bj.at h1 hx;obtain⟨b1,b2⟩:=Bj.at h2 hy;unfold qK;rw[hp];refine PU ?_ ?_ h.e fun hx hy=>?_
 ·have:=h.l1; simp; omega
 ·have:=h.l2; simp; omega
 rw[a2,b2]; exact alo he
end Go.Proofs.YtfmkkemfhjkajaaGreatDoor
end
