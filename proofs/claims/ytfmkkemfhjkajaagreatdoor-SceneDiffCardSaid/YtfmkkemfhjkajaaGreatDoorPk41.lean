/- A region that draws its order, walked order by order. No -/
import Derived.Test.YtfmkkemfhjkajaaGreatDoorScW5
set_option linter.unusedVariables false
section
namespace Go.Sx
open Go.Proofs.YtfmkkemfhjkajaaGreatDoor Go.RowKit Go.Rel
section
variable{P:Program}{os:List Oper}{Q:Exit→Act→World→Prop}{w0:World}{a:Act}{w:World}{n:Nat}{l:List (Nat×Value)}{bl:List (Nat×List Value)}{vs:List iM}
def one(os:List Oper)(i:Nat):List Oper:=(os.drop i).take 1
theorem aib{ops:Array Oper}{b:Nat}{A:List Value}(S:St w0 a w n l ((b,A)::bl) vs){wc:World}{f:FuncId}{args:Array Value}(d:Option Nat){R:Ending→World→Prop}(h0:Ext w0 wc)(hcw:Ext wc w)(hlt:∀p∈bl,p.1<wc.heap.size)(hc:Calls P f args w R)
  (next:∀e w',R e w'→∃v A',e = .returned v∧Ext wc w'∧Bx w' b (List.toArray A')∧∀a',St w0 a' w' n (YS l d v) ((b,A')::bl) []→wpList P ops Q (os.drop 1) a' w')
  (hx:callOf P os l=some (f,args,d):=by kernel_rfl) (hd:KA n d=true:=by rfl):wpList P ops Q os a w:=by
 cases os with
 | nil=>cases hx
 | cons o os =>
  unfold callOf at hx;simp only at hx;split at hx
  ·rename_i f' args' hg hav hev;simp only[anx,anD]at hx;obtain⟨rfl,rfl,rfl⟩:=hx;simp only[aom]at hav;have hrun:(execOp a.eval o).run P w = .ok (.enter f' args') w:=rF (Std.act a) (jX (dL S.s) o) (p:=[]) rfl hav.1 (by simpa using hav.2) hev;unfold wpList;rw[anv (by simp[Region.wanted,hg])];left;unfold Oper.wp;rw[hrun];simp only[Oper.upon];refine hc.mono fun e w' hR=>?_;obtain⟨v,A',rfl,hE,hX,hn⟩:=next e w' hR;refine hn _ ⟨ET S.s hd v,Ext.trans' h0 hE,fun p hp=>?_,S.apart,fun m hm=>(by cases hm)⟩;rcases anS.1 hp with rfl | hp
   ·exact⟨hX,(S.own _ anK).2⟩
   have h1:=S.own p (aot _ hp);have hl:=hlt p hp;exact⟨⟨an3 hl hE.size,fun i=>(hE.cell (p:=⟨p.1,i,none⟩) hl).trans ((hcw.cell (p:=⟨p.1,i,none⟩) hl).symm.trans (h1.1.2.1 i)),fun i=>(hE.frozen (p:=⟨p.1,i,none⟩) hl).trans ((hcw.frozen (p:=⟨p.1,i,none⟩) hl).symm.trans (h1.1.2.2 i))⟩,h1.2⟩
  cases hx
end
end Go.Sx
end
namespace Go.Proofs.YtfmkkemfhjkajaaGreatDoor
section
open Go.RowKit
variable{α:Type}{K:Nat}
theorem Y5{B b:Nat}{u1 u2 u3:World}{m:aT}(h:m.own B u1)(hE:Ext u1 u2)(hC:Ch b u2 u3)(hb:b<B∨u1.heap.size≤b) :
  m.own B u3∧m.s.ownBlock≠some b∧Sx.On (fun i=>B≤i∧i≠b∧m.s.ownBlock≠some i) (fun W=>∀n∈m.ns,n.mW B W) u3:=by
 have hr2:=Sx.gQ h.row hE;have hob:m.s.ownBlock≠some b:=fun e=>by have:=Sx.jc h.row e; omega
 have hn:Sx.On (fun i=>B≤i∧i≠b∧m.s.ownBlock≠some i) (fun W=>∀n∈m.ns,n.mW B W) u3:=fun w' hs hk =>
  h.nodes w' (anN (anN hE.size hC.size) hs) fun k h1 h2=>by
   have hkb:k≠b:=by omega
   have h3:k<u2.heap.size:=an3 h1 hE.size
   exact((hk k (an3 h3 hC.size) ⟨h2.1,hkb,h2.2⟩).trans (hC.block k h3 fun e=>hkb (anG e))).trans (hE.block k h1)
 exact⟨⟨Sx.nM hr2 fun g hg=>hC.block g (Sx.jc hr2 hg).2 fun e=>hob (hg.trans e),hn.mono fun i hi=>⟨hi.1,hi.2.2⟩⟩,hob,hn⟩
theorem own_base{B B' b:Nat}{u:World}{m:aT}(hB:B'≤B)(h:m.own B u∧m.s.ownBlock≠some b∧Sx.On (fun i=>B≤i∧i≠b∧m.s.ownBlock≠some i) (fun W=>∀n∈m.ns,n.mW B W) u) :
  m.own B' u∧m.s.ownBlock≠some b∧Sx.On (fun i=>B'≤i∧i≠b∧m.s.ownBlock≠some i) (fun W=>∀n∈m.ns,n.mW B' W) u:=
 ⟨⟨fB h.1.row hB,(h.1.nodes.mono fun i hi=>⟨anN hB hi.1,hi.2⟩).imp fun _ k n hn=>mJ (k n hn) hB⟩,h.2.1,(h.2.2.mono fun i hi=>⟨anN hB hi.1,hi.2⟩).imp fun _ k n hn=>mJ (k n hn) hB⟩
def UZ(base:Nat)(K:Nat)(s:aT)(e:aC)(code:Int)(t:aT)(w:World):Prop:=
 (t.key,code)=kD s.key e.key∧l9 base t.s t.ns w∧dU K w t∧∀n∈t.ns,n.Md K
theorem uY{base:Nat}{s:aT}{e:aC}{code:Int}{w:World}(h:kD s.key e.key=(.zero,code)):UZ base K s e code .zero w:=
 ⟨h.symm,an0 (Sx.fQ (f:=aj.cells) (L:=[]) (fun _=>rfl) ⟨rfl,.inl ⟨rfl,rfl⟩⟩ rfl rfl) (fun _ _ _ n hn=>by cases hn),Iq w,fun n hn=>(by cases hn)⟩
theorem ad9{s:aT}{e:aC}{code:Int}{m t:aT}(hd:I64 e.depth)(hv:s.key.valid=true)(hn:e.key.named=true)(hk:keys m.ns=keys s.ns)(hr:ab5 m e code t)(hc:code≠0):kD s.key e.key=(.zero,code):=by
 rw[←KP hd];unfold Ny;rw[anq (by simp[hv]),anq (by simp[hn])];have h1:=hr.1;rw[hk]at h1;rw[show s.key.ns=keys s.ns from rfl];cases hp:gy (keys s.ns) e.key with
 | error n=>rw[hp]at h1; rw[show code=n from h1]
 | ok l=>rw[hp]at h1; exact absurd h1.1 hc
theorem ab6{s:aT}{e:aC}{m t:aT}(hd:I64 e.depth)(hv:s.key.valid=true)(hn:e.key.named=true)(hk:keys m.ns=keys s.ns)(h3:m.w=s.w∧m.h=s.h∧m.bg=s.bg)(hr:ab5 m e 0 t)(hne:∀n,gy (keys s.ns) e.key = .error n→n≠0):kD s.key e.key=if t.key.chk.1=0 then (t.key,0)else (.zero,t.key.chk.1):=by
 rw[←KP hd];unfold Ny;rw[anq (by simp[hv]),anq (by simp[hn])];have h1:=hr.1;rw[hk]at h1;rw[show s.key.ns=keys s.ns from rfl];cases hp:gy (keys s.ns) e.key with
 | error n=>rw[hp]at h1; exact absurd h1.symm (hne n hp)
 | ok l =>
  rw[hp]at h1;have ht:s.key.with' e.key l=t.key:=by
   unfold aQ.with' aT.key;rw[hr.2.1,hr.2.2,h1.2.2,←h1.2.1,h3.1,h3.2.1,h3.2.2];rfl
  simp only[ht]
theorem IJ{l:List aF}{e:bU}{n:Int}(h:gy l e = .error n):n≠0:=by
 unfold gy nP at h;(repeat' split at h)<;>first | (cases h; decide) | cases h
set_option maxRecDepth 100000 in
set_option maxHeartbeats 3200000 in
theorem QX{w:World}{s:aT}{e:aC}(h:dU K w s)(hg:lG w)(he:yN K w e)(hlim:∀n∈s.ns,n.lim)(hel:e.node.lim) :
  Calls Tryz.prog 17 #[s.v,e.v] w fun r w'=>∃(t:aT) (code:Int),r = .returned (.tuple #[t.v,.i code])∧UZ w.heap.size K s e code t w'∧Ext w w':=by
 skip;refine am0 Tryz.func17 Tryz.ntmps17 fun ac S=>amW fun _ aO=>amY S 2 s.cells fun ac u b2 E3 hb4 S=>amY S 3 e.cells fun ac u b5 E6 hb7 S=>amY S 4 [.i 0,.i 0,.int .u8 0,.int .u8 0,.int .u8 0,.int .u8 0,.slice none 0 0] fun ac u b8 E9 xY S=>adr S 1 [] [(5,.i 0)] fun S=>amV<|aO _ _<|anj fun _ bW=>amW fun _ cZ=>adr S 1 [.mem 2 0] [(8,s.v)] fun S=>am3 S 9 (nV (h.below S.E) (hg.below S.E)) fun ac u Dn S=>adr S 1 [] [(10,.bool (!s.key.valid))] fun S=>amV (cZ _ _ ?_);refine amX S (fun pI=>?_) (fun pI=>?_)
 ·refine amW fun _ gV=>adr S 1 [] [(11,.agg #[.i 0,.i 0,.int .u8 0,.int .u8 0,.int .u8 0,.int .u8 0,.slice none 0 0])] fun S=>am1 S 0 (off:=0) (cs:=[.i 0,.i 0,.int .u8 0,.int .u8 0,.int .u8 0,.int .u8 0,.slice none 0 0]) rfl fun u VN S=>adr S 1 [] [(5,.i 18)] fun S=>amV<|gV _ _<|anr ?_;refine Sx.QY S 0 Tryz.results17 rfl (v := .agg (aT.cells .zero).toArray) (u := .i 18) ⟨.zero,_,rfl,uY (by unfold kD; rw[anv (by simpa using pI)]),S.E⟩
 refine ano<|bW _ _<|anj fun _ iD=>amW fun _ jH=>adr S 1 [.mem 1 0] [(12,e.v)] fun S=>am3 S 13 (Y4 (he.below S.E)) fun ac u XL S=>adr S 1 [] [(14,.bool (!e.key.named))] fun S=>amV (jH _ _ ?_);refine amX S (fun tN=>?_) (fun tN=>?_)
 ·refine amW fun _ jT=>adr S 1 [] [(15,.agg #[.i 0,.i 0,.int .u8 0,.int .u8 0,.int .u8 0,.int .u8 0,.slice none 0 0])] fun S=>am1 S 0 (off:=0) (cs:=[.i 0,.i 0,.int .u8 0,.int .u8 0,.int .u8 0,.int .u8 0,.slice none 0 0]) rfl fun u C22 S=>adr S 1 [] [(5,.i 2)] fun S=>amV<|jT _ _<|anr ?_;refine Sx.QY S 0 Tryz.results17 rfl (v := .agg (aT.cells .zero).toArray) (u := .i 2) ⟨.zero,_,rfl,uY (by unfold kD; rw[anq (by have:=pI; simp at this; simp[this]),anv (by simpa using tN)]),S.E⟩
 refine ano<|iD _ _<|amW (fun _ oO=>?_);have hE0:=S.E;have ab7:=(S.bx 0).1;have aic:=(S.bx 1).1;have af2:=(S.bx 2).1;obtain⟨wc,hwc⟩:∃z:World,z=u:=⟨_,rfl⟩;rw[←hwc]at hE0 ab7 aic af2;have hcw:Ext wc u:=hwc▸Ext.rfl';have hv:s.key.valid=true:=by simpa using pI
 have hno:e.key.named=true:=by simpa using tN
 have hsl:s.ns.length≤64:=by have:=(aQ.oI.1 hv).2.1; rwa [show s.key.ns.length=s.ns.length from aob ..]at this
 refine adr S 1 [.mem 2 0] [(16,s.v)] (fun S=>?_);have hwl:=(hcw).size;refine am4 S (some 17) (QV (h.below S.E) hlim (by omega)) ?_;rintro e u ⟨m,rfl,hmo,hms,hmw,hmh,hmb,Ul⟩;refine⟨_,rfl,Ul,fun ac S=>?_⟩;have hwz:=((Ext.trans' hcw Ul)).size;refine amY S 6 [.i 0,.i 0,.int .u8 0,.int .u8 0,.int .u8 0,.int .u8 0,.slice none 0 0] (fun ac u b25 ZE OO S=>?_);have hge:wc.heap.size≤b25:=by omega
 refine am1 S 0 (off:=0) (cs:=m.cells) rfl (fun u C28 S=>?_);have Dt:=am5 (Ext.trans' Ul ZE) C28 (by have:=Ul.size; omega);refine amV<|oO _ _<|amW (fun _ mM=>?_);have hmw:=And.intro hmw (And.intro hmh hmb);refine adr S 1 [.mem 2 0] [(18,e.v)] (fun S=>?_);have agJ:=(own_base hwl (Y5 hmo ZE C28 (.inr (Nat.le_of_eq OO.symm))));have hml:m.ns.length=s.ns.length:=by have:=anu List.length hms; simpa using this
 refine Sx.aib S (some 19) hE0 ((Ext.trans' hcw Dt)) (fun p hp=>by rcases anS.1 hp with rfl | hp; exact ab7; rcases anS.1 hp with rfl | hp; exact aic; rcases anS.1 hp with rfl | hp; exact af2; cases hp) (U0 (K:=K) (w0:=wc) ((Ext.trans' hcw Dt)) (S.bx 0) hge agJ.1 agJ.2.1 agJ.2.2 (fun n hn=>⟨fits_all hms (fun n hn=>(h.2.2.2 n hn).2) n hn,UW hms hlim n hn⟩) (he.below hE0) hel (by omega)) ?_;rintro r u ⟨code,t,rfl,hE2,hX,hcp,hft,hres⟩;refine⟨_,t.cells,rfl,hE2,hX,fun ac S=>?_⟩;have htw:I64 t.w∧I64 t.h:=by rw[hres.2.1,hres.2.2,hmw.1,hmw.2.1]; exact⟨h.1,h.2.1⟩
 have hkm:keys m.ns=keys s.ns:=Gh hms;refine adr S 1 [] [(7,.i code)] fun S=>amV<|mM _ _<|anj fun _ qp=>amW fun _ jF=>adr S 2 [] [(21,.bool ((code)==0))] fun S=>amV (jF _ _ ?_);refine amX S (fun mX=>?_) (fun mX=>?_)
 ·refine ant<|adr S 1 [.mem 0 0] [(23,t.v)] fun S=>am3 S 24 (yO (K:=K) (s:=t) ⟨htw.1,htw.2,l9.ok (hcp) fun n hn=>(hft n hn).1⟩ (hg.below S.E)) fun ac u PX S=>adr S 4 [] [(7,.i t.key.chk.1)] fun S=>amV<|qp _ _<|anj fun _ nI=>amW fun _ oP=>adr S 2 [] [(28,.bool ((t.key.chk.1) != 0))] fun S=>amV (oP _ _ ?_);refine amX S (fun qC=>?_) (fun qC=>?_)
  ·refine amW fun _ jG=>adr S 2 [] [(29,.agg #[.i 0,.i 0,.int .u8 0,.int .u8 0,.int .u8 0,.int .u8 0,.slice none 0 0]),(30,.i t.key.chk.1)] fun S=>am1 S 1 (off:=0) (cs:=[.i 0,.i 0,.int .u8 0,.int .u8 0,.int .u8 0,.int .u8 0,.slice none 0 0]) rfl (fun u C39 S=>?_);have ZW:=dV.ch (Sx.On.ext hcp PX) C39 ab7;refine adr S 1 [] [(5,.i t.key.chk.1)] fun S=>amV<|jG _ _<|anr ?_;have hc0:code=0:=by simpa using mX
   have hap:=ab6 he.2.2.2.1 hv hno hkm hmw (hc0▸hres) fun n h=>IJ h;refine Sx.QY S 1 Tryz.results17 rfl (v := .agg (aT.cells .zero).toArray) (u := .i t.key.chk.1) ⟨.zero,_,rfl,uY (by rw[hap,anq (by simpa using qC)]),S.E⟩
  refine ano<|nI _ _<|amW fun _ qj=>adr S 1 [.mem 0 0] [(31,t.v)] fun S=>am1 S 1 (off:=0) (cs:=t.cells) rfl (fun u C42 S=>?_);have Jq:=dV.ch (Sx.On.ext hcp PX) C42 ab7;refine adr S 1 [] [(5,.i 0)] fun S=>amV<|qj _ _<|anr ?_;have hc0:code=0:=by simpa using mX
  have hap:=ab6 he.2.2.2.1 hv hno hkm hmw (hc0▸hres) fun n h=>IJ h;refine Sx.QY S 1 Tryz.results17 rfl (v := .agg (aT.cells t).toArray) (u := .i 0) ⟨t,_,rfl,⟨by rw[hap,anv (by simpa using qC)],l9.le (Jq) hE0.size,⟨htw.1,htw.2,l9.ok (Jq) fun n hn=>(hft n hn).1⟩,hft⟩,S.E⟩
 refine ano<|qp _ _<|anj fun _ vg=>amW (fun _ vk=>?_);have hne:((code) != 0)=true:=by have:=mX; simpa using this
 refine adr S 2 [] [(28,.bool ((code) != 0))] fun S=>amV (vk _ _ ?_);refine amX S (fun vG=>?_) (fun vG=>?_)
 ·refine amW fun _ zK=>adr S 2 [] [(29,.agg #[.i 0,.i 0,.int .u8 0,.int .u8 0,.int .u8 0,.int .u8 0,.slice none 0 0]),(30,.i code)] fun S=>am1 S 1 (off:=0) (cs:=[.i 0,.i 0,.int .u8 0,.int .u8 0,.int .u8 0,.int .u8 0,.slice none 0 0]) rfl (fun u C48 S=>?_);have OB:=dV.ch hcp C48 ab7;refine adr S 1 [] [(5,.i code)] fun S=>amV<|zK _ _<|anr ?_;refine Sx.QY S 1 Tryz.results17 rfl (v := .agg (aT.cells .zero).toArray) (u := .i code) ⟨.zero,_,rfl,uY (ad9 he.2.2.2.1 hv hno hkm hres (by simpa using hne)),S.E⟩
 rw[hne]at vG; cases vG
end
section
open Go.RowKit
variable{α:Type}{K:Nat}
abbrev Me (K:Nat)(w:World)(v:Value)(l:List aC):Prop:=aN 55 aC.cells w v l∧∀e∈l,yN K w e
theorem all_nil{s m:aT}{es:List aC}{k:Nat}(hR:fP s.key (es.map aC.key) 0=fP m.key ((es.map aC.key).drop k) k)(hk:es.length≤k):fP s.key (es.map aC.key) 0=(m.key,(k:Int),0):=by
 rw[hR,aon (by simpa using hk)]; rfl
theorem all_cons{s m t:aT}{es:List aC}{e:aC}{code:Int}{k:Nat}(hR:fP s.key (es.map aC.key) 0=fP m.key ((es.map aC.key).drop k) k)(hk:k<es.length)(he:es[k]=e)(h:(t.key,code)=kD m.key e.key) :
  fP s.key (es.map aC.key) 0=if code=0 then fP t.key ((es.map aC.key).drop (k+1)) (k+1)else (.zero,(k:Int),code):=by
 rw[hR,aoo (by simpa using hk),apa,he];unfold fP;rw[←h];cases hc:(es.map aC.key).drop (k+1)<;>rfl
end
section
theorem IsTree.agK{n:Nat}{f:Nat→Int}(T:IsTree n f){k i:Nat}(hk:k<n)(h:uK f k=(i:Int)):wG n f k≤wG n f i:=by
 obtain⟨h1,h2,h3⟩:=(T.abT hk).1 h;obtain⟨a1,a2,a3,a4⟩:=tq (n:=n) (f:=f) (i:=i) (by omega);obtain⟨b1,b2,b3,b4⟩:=tq (n:=n) (f:=f) hk;by_cases hx:wG n f k≤wG n f i
 ·exact hx
 have:=b3 (wG n f i) h2 (by omega);have:=a4 (by omega);omega
theorem IsTree.ab8{n:Nat}{f:Nat→Int}(T:IsTree n f){m k:Nat}(hk:k<n)(hm:f k<m):((CS f m k).length:Int)=f k+1:=by
 rw[T.abU m k hk hm,aob,List.length_range];have:=T.nn k hk;omega
structure Way (n:Nat) (f:Nat→Int) (L:List Nat) (k:Nat):Prop where
 last:L.getLast?=some k
 head:∀(h:0<L.length),uK f L[0] = -1
 lt:∀x∈L,x<n
 next:∀j (h:j+1<L.length),uK f L[j+1]=(L[j]:Int)∧wG n f L[j+1]≤wG n f L[j]
theorem IsTree.way{n:Nat}{f:Nat→Int}(T:IsTree n f):∀(m k:Nat),k<n→f k<m→Way n f (CS f m k) k
 | 0,k,hk,h=>by have:=T.nn k hk; omega
 | m+1,k,hk,h=>by
  rcases Int.lt_or_le 0 (f k)with h0 | h0
  ·obtain⟨j,h1,h2,h3⟩:=T.Xc hk h0
   have e:CS f (m+1) k=CS f m j++[k]:=by
    show(if uK f k<0 then []else CS f m (uK f k).toNat)++[k]=_
    rw[h1,anq (by omega),apW]
   have ih:=T.way m j (by omega) (by omega)
   have hlen:=T.ab8 (m:=m) (k:=j) (by omega) (by omega)
   have hnn:=T.nn j (by omega)
   rw[e]
   refine⟨List.getLast?_concat ..,fun hp=>?_,fun x hx=>?_,fun i hi=>?_⟩
   ·rw[apR (by omega)]
    exact ih.head _
   ·rcases aod.1 hx with hx | hx
    ·exact ih.lt x hx
    ·rw[aoe.1 hx]; exact hk
   ·rw[anX,apL]at hi
    by_cases hl:i+1<(CS f m j).length
    ·rw[apR hl,apR (by omega)]
     exact ih.next i hl
    ·have e2:(CS f m j++[k])[i+1]'(by rw[anX,apL]; omega)=k:=by
      rw[List.getElem_append_right (by omega)]; simp
     have e3:(CS f m j++[k])[i]'(by rw[anX,apL]; omega)=j:=by
      rw[apR (by omega)]
      have:=ih.last
      rw[List.getLast?_eq_getElem?,List.getElem?_eq_getElem (by omega)]at this
      have h5:=anG this
      have h6:i=(CS f m j).length-1:=by omega
      subst h6
      exact h5
     rw[e2,e3]
     exact⟨h1,T.agK hk h1⟩
  ·have hz:f k=0:=by have:=T.nn k hk; omega
   have hp:=(T.par_none hk).2 hz
   have e:CS f (m+1) k=[k]:=by
    show(if uK f k<0 then []else CS f m (uK f k).toNat)++[k]=_
    rw[hp,anv (by decide)]; rfl
   rw[e]
   refine⟨rfl,fun _=>hp,fun x hx=>by rw[aoe.1 hx]; exact hk,fun i hi=>?_⟩
   rw[apL]at hi; omega
end
section
open Go.RowKit
variable{α:Type}{K:Nat}
def IK(n:Nat):Value := .i n
abbrev agL (base:Nat)(w:World)(v:Value)(l:List Nat):Prop:=w.ownsRow base 3 1 v l.length (l.map IK)
theorem adz{w0 w:World}{bl:List (Nat×List Value)}{e:TypeId}{k:Nat}(R:Sx.Rw w0 w bl []):Sx.Rw w0 w bl [⟨e,k,.slice none 0 0,0,[]⟩]:=
 ⟨fun r hr=>by obtain rfl:=aoe.1 hr; exact⟨(Nat.zero_mul k).symm,.inl ⟨rfl,rfl⟩⟩,R.lt,R.apart⟩
theorem J7{s:aT}(h:s.key.valid=true):s.ns.length≤64:=by
 have:=(aQ.oI.1 h).2.1;rwa [show s.key.ns.length=s.ns.length from aob ..]at this
theorem ab9(l:List Nat):l.flatMap (fun n:Nat=>[IK n])=l.map IK:=by induction l<;>simp_all
end
end Go.Proofs.YtfmkkemfhjkajaaGreatDoor
section
namespace Go.Sx
open Go.Proofs.YtfmkkemfhjkajaaGreatDoor Go.RowKit Go.Rel
structure Rl (kp:TypeId→Nat→Bool) (base:Nat) (w w':World):Prop where
 bel:Below base w w'
 obj:∀(g:Nat) (cur:Array Value) (e:TypeId),w.heap[g]?=some (.cells cur e (0,0))→∃cur':Array Value,w'.heap[g]?=some (.cells cur' e (0,0))∧cur'.size=cur.size∧∀i:Nat,kp e i=true→cur'[i]?=cur[i]?
section
variable{kp:TypeId→Nat→Bool}{base:Nat}{w w' w2:World}
theorem Rl.refl:Rl kp base w w:=⟨anU _ _,fun g cur e h=>⟨cur,h,rfl,fun _ _=>rfl⟩⟩
theorem Rl.trans(h:Rl kp base w w')(k:Rl kp base w' w2):Rl kp base w w2:=⟨h.bel.trans k.bel,fun g cur e hg=>by
 obtain⟨c1,h1,h2,h3⟩:=h.obj g cur e hg;obtain⟨c2,k1,k2,k3⟩:=k.obj g c1 e h1;exact⟨c2,k1,k2.trans h2,fun i hi=>(k3 i hi).trans (h3 i hi)⟩⟩
theorem Rl.ext(h:Rl kp base w w')(hE:Ext w' w2)(hb:base≤w'.heap.size):Rl kp base w w2:=h.trans ⟨⟨hE.os,hE.tape,hE.output,hE.size,fun k hk=>hE.block k (an3 hk hb)⟩,fun g cur e hg=>⟨cur,(hE.block g (tY hg).1).trans hg,rfl,fun _ _=>rfl⟩⟩
theorem Rl.set{g off:Nat}{cur:Array Value}{e:TypeId}{cs:List Value}(h:w.heap[g]?=some (.cells cur e (0,0)))(hb:base≤g)(hf:off+cs.length≤cur.size)(hk:∀j,j<cs.length→kp e (off+j)=false):Rl kp base w (w.setCells g off cs):=by
 have hc:Ch g w (w.setCells g off cs):=(Ch.refl g w).setCells cs off;refine⟨hc.below hb (anN hb (apf (tY h).1)),fun g' cur' e' hg'=>?_⟩;by_cases hgg:g'=g
 ·subst hgg;rw[h]at hg';simp only[anx,Obj.cells.injEq,and_true]at hg';obtain⟨rfl,rfl⟩:=hg';refine⟨_,xq g' e (0,0) cs off w cur h hf,by unfold spl; simp; omega,fun i hi=>?_⟩;rw[List.getElem?_toArray];unfold spl;rw[List.getElem?_append,List.getElem?_append];simp only[anX,aoT,Array.length_toList,List.getElem?_take,List.getElem?_drop];rw[aoA (by omega)];by_cases h1:i<off
  ·simp[h1,show i<off+cs.length by omega]
  by_cases h2:i<off+cs.length
  ·exfalso;have:=hk (i-off) (by omega);rw[show off+(i-off)=i by omega,hi]at this;cases this
  simp[h2,show off+cs.length+(i-(off+cs.length))=i by omega]
 exact⟨cur',(hc.block g' (tY hg').1 fun e=>hgg (anG e)).trans hg',rfl,fun _ _=>rfl⟩
theorem Ty.now{k n:Nat}{e:TypeId}{v:Value}(h:Ty e k base v n w)(hR:Rl kp base w w')(hn:0<n):∃g cap,v = .slice (some ⟨g,0,none⟩) n cap∧base≤g∧g<w.heap.size∧∃cur,w'.heap[g]?=some (.cells cur e (0,0))∧n*k≤cur.size:=by
 rcases h with h | ⟨g,cap,cur,h1,h2,h3,h4⟩
 ·omega
 obtain⟨c,h5,h6,-⟩:=hR.obj g cur e h3;exact⟨g,cap,h1,h2,(tY h3).1,c,h5,by rw[h6]; exact h4⟩
theorem jV.now{α:Type}{k:Nat}{e:TypeId}{f:α→List Value}{v:Value}{L:List α}(h:jV e k f base v L w)(hR:Rl kp base w w'){i:Nat}(hi:i<L.length)(j m:Nat){cs:List Value}(hm:j+cs.length≤k)(hc:((f L[i]).drop j).take cs.length=cs)(hk:∀q,q<cs.length→kp e (i*k+j+q)=true){g cap:Nat}(hv:v = .slice (some ⟨g,0,none⟩) L.length cap):w'.rangeAt g (0+i*k+j) cs:=by
 subst hv;obtain⟨hrow,hty⟩:=h;rcases hty with hty | ⟨g',cap',cur,h1,h2,h3,h4⟩
 ·omega
 simp only[anY,anx,aoV,and_true,true_and]at h1;obtain⟨rfl,rfl⟩:=h1;obtain⟨c,h5,h6,h7⟩:=hR.obj g cur e h3;obtain⟨a,cp,hv,hm2,⟨rfl,_⟩ | ⟨b,o,rfl,hb,hl,hcell⟩⟩:=hrow
 ·simp at hi
 simp only[anY,anx,aoV,and_true,true_and]at hv;obtain⟨⟨rfl,rfl⟩,rfl⟩:=hv;intro q u hq;have hql:q<cs.length:=by
  by_cases h:q<cs.length
  ·exact h
  rw[List.getElem?_eq_none (by omega)]at hq; cases hq
 have h8:=hcell i hi (j+q) (by omega);rw[(tY h3).2.1]at h8;have h9:=h7 (i*k+j+q) (hk q hql);rw[(tY h5).2.1,show 0+i*k+j+q=i*k+j+q by omega,h9,show i*k+j+q=0+i*k+(j+q) by omega,h8];rw[←hc,List.getElem?_take_of_lt hql,List.getElem?_drop]at hq;exact hq
variable{P:Program}{ops:Array Oper}{Q:Exit→Act→World→Prop}{w0:World}{a:Act}{os:List Oper}{n:Nat}{l:List (Nat×Value)}{bl:List (Nat×List Value)}{vs:List iM}
def cut(base:Nat)(w:World):World:={ w with heap:=w.heap.extract 0 base }
theorem QZ(hb:base≤w.heap.size):(cut base w).heap.size=base:=by unfold cut; simp; omega
theorem aea(hb:base≤w.heap.size):Ext (cut base w) w:=⟨rfl,rfl,rfl,by rw[QZ hb]; exact hb,fun k hk=>by
 rw[QZ hb]at hk;unfold cut;rw[Array.getElem?_extract];simp; omega⟩
theorem St.from(S:St w a w n l [] [])(hb:base≤w.heap.size):St (cut base w) a w n l [] []:=⟨S.s,aea hb,fun p hp=>(by cases hp),S.apart,fun m hm=>(by cases hm)⟩
end
end Go.Sx
end
section
namespace Go.Sx
open Go.Proofs.YtfmkkemfhjkajaaGreatDoor Go.RowKit Go.Rel
section
variable{w0 w w1 w2:World}{a a0:Act}{n:Nat}{l l0:List (Nat×Value)}{bl:List (Nat×List Value)}{vs vs0:List iM}
theorem St.re(S:St w0 a w n l bl vs):St w a w n l [] (mO bl vs):=⟨S.s,Ext.rfl',fun p hp=>(by cases hp),List.nodup_nil,fun m hm=>⟨S.DT m hm,fun p hp=>(by cases hp)⟩⟩
theorem St.back(S0:St w0 a0 w1 n l0 bl vs0)(S:St w2 a w n l [] vs)(h:Ext w1 w2):St w0 a w n l bl []:=
 have hE:Ext w1 w:=Ext.trans' h S.E
 ⟨S.s,(S0.grow hE).E,(S0.grow hE).own,S0.apart,fun m hm=>by cases hm⟩
end
theorem nU{n:Nat}(h:1≤n)(h2:n≤9223372036854775807):Value.i (IntKind.i64.wrap ((n:Int)-1)) = .i (n-1:Nat):=by
 have:IntKind.i64.wrap ((n:Int)-1)=((n-1:Nat):Int):=by rw[aoW]; omega
 rw[this]
end Go.Sx
end
