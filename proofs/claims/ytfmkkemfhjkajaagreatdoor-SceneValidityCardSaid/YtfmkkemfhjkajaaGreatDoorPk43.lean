/- A region that draws its order, walked order by order. No -/
import Derived.Test.YtfmkkemfhjkajaaGreatDoorHoist2
import Derived.Test.YtfmkkemfhjkajaaGreatDoorScW5
import Derived.Test.YtfmkkemfhjkajaaGreatDoorPk31
set_option linter.unusedVariables false
section
namespace Go.Sx
open Go.Proofs.YtfmkkemfhjkajaaGreatDoor Go.RowKit Go.Rel
section
variable{P:Program}{os:List Oper}{Q:Exit→Act→World→Prop}{w0:World}{a:Act}{w:World}{n:Nat}{l:List (Nat×Value)}{bl:List (Nat×List Value)}{vs:List iG}
def one(os:List Oper)(i:Nat):List Oper:=(os.drop i).take 1
theorem ae3{ops:Array Oper}{b:Nat}{A:List Value}(S:St w0 a w n l ((b,A)::bl) vs){wc:World}{f:FuncId}{args:Array Value}(d:Option Nat){R:Ending→World→Prop}(h0:Ext w0 wc)(hcw:Ext wc w)(hlt:∀p∈bl,p.1<wc.heap.size)(hc:Calls P f args w R)
  (next:∀e w',R e w'→∃v A',e = .returned v∧Ext wc w'∧Bx w' b (List.toArray A')∧∀a',St w0 a' w' n (V9 l d v) ((b,A')::bl) []→wpList P ops Q (os.drop 1) a' w')
  (hx:callOf P os l=some (f,args,d):=by kernel_rfl) (hd:J7 n d=true:=by rfl):wpList P ops Q os a w:=by
 cases os with
 | nil=>cases hx
 | cons o os =>
  unfold callOf at hx
  simp only at hx
  split at hx
  ·rename_i f' args' hg hav hev
   simp only[Option.some.injEq,Prod.mk.injEq]at hx
   obtain⟨rfl,rfl,rfl⟩:=hx
   simp only[Bool.or_eq_false_iff]at hav
   have hrun:(execOp a.eval o).run P w = .ok (.enter f' args') w:=qj (Std.act a) (jW (dR S.s) o) (p:=[]) rfl hav.1 (by simpa using hav.2) hev
   unfold wpList
   rw[if_pos (by simp[Region.wanted,hg])]
   left
   unfold Oper.wp
   rw[hrun]
   simp only[Oper.upon]
   refine hc.mono fun e w' hR=>?_
   obtain⟨v,A',rfl,hE,hX,hn⟩:=next e w' hR
   refine hn _ ⟨EU S.s hd v,Ext.trans' h0 hE,fun p hp=>?_,S.apart,fun m hm=>(by cases hm)⟩
   rcases List.mem_cons.1 hp with rfl | hp
   ·exact⟨hX,(S.own _ List.mem_cons_self).2⟩
   ·have h1:=S.own p (List.mem_cons_of_mem _ hp)
    have hl:=hlt p hp
    exact⟨⟨Nat.lt_of_lt_of_le hl hE.size,fun i=>(hE.cell (p:=⟨p.1,i,none⟩) hl).trans ((hcw.cell (p:=⟨p.1,i,none⟩) hl).symm.trans (h1.1.2.1 i)),fun i=>(hE.frozen (p:=⟨p.1,i,none⟩) hl).trans ((hcw.frozen (p:=⟨p.1,i,none⟩) hl).symm.trans (h1.1.2.2 i))⟩,h1.2⟩
  ·cases hx
end
end Go.Sx
end
namespace Go.Proofs.YtfmkkemfhjkajaaGreatDoor
section
open Go.RowKit
variable{α:Type}{K:Nat}
theorem Wy{B b:Nat}{u1 u2 u3:World}{m:aS}(h:m.own B u1)(hE:Ext u1 u2)(hC:Ch b u2 u3)(hb:b<B∨u1.heap.size≤b) :
  m.own B u3∧m.s.ownBlock≠some b∧Sx.On (fun i=>B≤i∧i≠b∧m.s.ownBlock≠some i) (fun W=>∀n∈m.ns,n.qY B W) u3:=by
 have hr2:=Sx.iP h.row hE
 have hob:m.s.ownBlock≠some b:=fun e=>by have:=Sx.iH h.row e; omega
 have hn:Sx.On (fun i=>B≤i∧i≠b∧m.s.ownBlock≠some i) (fun W=>∀n∈m.ns,n.qY B W) u3:=fun w' hs hk =>
  h.nodes w' (Nat.le_trans (Nat.le_trans hE.size hC.size) hs) fun k h1 h2=>by
   have hkb:k≠b:=by omega
   have h3:k<u2.heap.size:=Nat.lt_of_lt_of_le h1 hE.size
   exact((hk k (Nat.lt_of_lt_of_le h3 hC.size) ⟨h2.1,hkb,h2.2⟩).trans (hC.block k h3 fun e=>hkb (Option.some.inj e))).trans (hE.block k h1)
 exact⟨⟨Sx.lZ hr2 fun g hg=>hC.block g (Sx.iH hr2 hg).2 fun e=>hob (hg.trans e),hn.mono fun i hi=>⟨hi.1,hi.2.2⟩⟩,hob,hn⟩
theorem own_base{B B' b:Nat}{u:World}{m:aS}(hB:B'≤B)(h:m.own B u∧m.s.ownBlock≠some b∧Sx.On (fun i=>B≤i∧i≠b∧m.s.ownBlock≠some i) (fun W=>∀n∈m.ns,n.qY B W) u) :
  m.own B' u∧m.s.ownBlock≠some b∧Sx.On (fun i=>B'≤i∧i≠b∧m.s.ownBlock≠some i) (fun W=>∀n∈m.ns,n.qY B' W) u:=
 ⟨⟨eX h.1.row hB,(h.1.nodes.mono fun i hi=>⟨Nat.le_trans hB hi.1,hi.2⟩).imp fun _ k n hn=>BU (k n hn) hB⟩,h.2.1,(h.2.2.mono fun i hi=>⟨Nat.le_trans hB hi.1,hi.2⟩).imp fun _ k n hn=>BU (k n hn) hB⟩
def Qj(base:Nat)(K:Nat)(s:aS)(e:bC)(code:Int)(t:aS)(w:World):Prop:=
 (t.key,code)=jI s.key e.key∧kY base t.s t.ns w∧bW K w t∧∀n∈t.ns,n.RH K
theorem tq{base:Nat}{s:aS}{e:bC}{code:Int}{w:World}(h:jI s.key e.key=(.zero,code)):Qj base K s e code .zero w:=
 ⟨h.symm,Sx.On.and (Sx.fV (f:=aj.cells) (L:=[]) (fun _=>rfl) ⟨rfl,.inl ⟨rfl,rfl⟩⟩ rfl rfl) (fun _ _ _ n hn=>by cases hn),Gm w,fun n hn=>(by cases hn)⟩
theorem aa7{s:aS}{e:bC}{code:Int}{m t:aS}(hd:I64 e.depth)(hv:s.key.valid=true)(hn:e.key.named=true)(hk:keys m.ns=keys s.ns)(hr:Zo m e code t)(hc:code≠0):jI s.key e.key=(.zero,code):=by
 rw[←Jh hd]
 unfold KG
 rw[if_neg (by simp[hv]),if_neg (by simp[hn])]
 have h1:=hr.1
 rw[hk]at h1
 rw[show s.key.ns=keys s.ns from rfl]
 cases hp:fO (keys s.ns) e.key with
 | error n=>rw[hp]at h1; rw[show code=n from h1]
 | ok l=>rw[hp]at h1; exact absurd h1.1 hc
theorem Zp{s:aS}{e:bC}{m t:aS}(hd:I64 e.depth)(hv:s.key.valid=true)(hn:e.key.named=true)(hk:keys m.ns=keys s.ns)(h3:m.w=s.w∧m.h=s.h∧m.bg=s.bg)(hr:Zo m e 0 t)(hne:∀n,fO (keys s.ns) e.key = .error n→n≠0):jI s.key e.key=if t.key.chk.1=0 then (t.key,0)else (.zero,t.key.chk.1):=by
 rw[←Jh hd]
 unfold KG
 rw[if_neg (by simp[hv]),if_neg (by simp[hn])]
 have h1:=hr.1
 rw[hk]at h1
 rw[show s.key.ns=keys s.ns from rfl]
 cases hp:fO (keys s.ns) e.key with
 | error n=>rw[hp]at h1; exact absurd h1.symm (hne n hp)
 | ok l =>
  rw[hp]at h1
  have ht:s.key.with' e.key l=t.key:=by
   unfold aP.with' aS.key
   rw[hr.2.1,hr.2.2,h1.2.2,←h1.2.1,h3.1,h3.2.1,h3.2.2]
   rfl
  simp only[ht]
theorem Gv{l:List aJ}{e:gQ}{n:Int}(h:fO l e = .error n):n≠0:=by
 unfold fO lY at h
 (repeat' split at h)<;>first | (cases h; decide) | cases h
set_option maxRecDepth 100000 in
set_option maxHeartbeats 3200000 in
theorem MF{w:World}{s:aS}{e:bC}(h:bW K w s)(hg:jE w)(he:zo K w e)(hlim:∀n∈s.ns,n.lim)(hel:e.node.lim) :
  Calls Tryz.prog 17 #[s.v,e.v] w fun r w'=>∃(t:aS) (code:Int),r = .returned (.tuple #[t.v,.int .i64 code])∧Qj w.heap.size K s e code t w'∧Ext w w':=by
 skip
 refine aiK Tryz.func17 Tryz.ntmps17 fun ac S=>aiG fun _ aU=>aiJ S 2 s.cells fun ac u b2 E3 hb4 S=>aiJ S 3 e.cells fun ac u b5 E6 hb7 S=>aiJ S 4 [.int .i64 0,.int .i64 0,.int .u8 0,.int .u8 0,.int .u8 0,.int .u8 0,.slice none 0 0] fun ac u b8 E9 yC S=>adr S 1 [] [(5,.int .i64 0)] fun ac S=>aiF<|aU _ _<|wp_seq_k fun _ dB=>aiG fun _ dw=>adr S 1 [.mem 2 0] [(8,s.v)] fun ac S=>aiM S 9 (mO (h.below S.E) (hg.below S.E)) fun ac u H7 S=>adr S 1 [] [(10,.bool (!s.key.valid))] fun ac S=>aiF (dw _ _ ?_)
 refine aiI S (fun nZ=>?_) (fun nZ=>?_)
 ·refine aiG fun _ fH=>adr S 1 [] [(11,.agg #[.int .i64 0,.int .i64 0,.int .u8 0,.int .u8 0,.int .u8 0,.int .u8 0,.slice none 0 0])] fun ac S=>aiL S 0 (off:=0) (cs:=[.int .i64 0,.int .i64 0,.int .u8 0,.int .u8 0,.int .u8 0,.int .u8 0,.slice none 0 0]) rfl fun u Xj S=>adr S 1 [] [(5,.int .i64 18)] fun ac S=>aiF<|fH _ _<|Vp.rt ?_
  refine Sx.OD S 0 Tryz.results17 rfl (v := .agg (aS.cells .zero).toArray) (u := .int .i64 18) ⟨.zero,_,rfl,tq (by unfold jI; rw[if_pos (by simpa using nZ)]),S.E⟩
 ·refine wp_skip<|dB _ _<|wp_seq_k fun _ ig=>aiG fun _ je=>adr S 1 [.mem 1 0] [(12,e.v)] fun ac S=>aiM S 13 (Wx (he.below S.E)) fun ac u Xm S=>adr S 1 [] [(14,.bool (!e.key.named))] fun ac S=>aiF (je _ _ ?_)
  refine aiI S (fun rY=>?_) (fun rY=>?_)
  ·refine aiG fun _ jo=>adr S 1 [] [(15,.agg #[.int .i64 0,.int .i64 0,.int .u8 0,.int .u8 0,.int .u8 0,.int .u8 0,.slice none 0 0])] fun ac S=>aiL S 0 (off:=0) (cs:=[.int .i64 0,.int .i64 0,.int .u8 0,.int .u8 0,.int .u8 0,.int .u8 0,.slice none 0 0]) rfl fun u C22 S=>adr S 1 [] [(5,.int .i64 2)] fun ac S=>aiF<|jo _ _<|Vp.rt ?_
   refine Sx.OD S 0 Tryz.results17 rfl (v := .agg (aS.cells .zero).toArray) (u := .int .i64 2) ⟨.zero,_,rfl,tq (by unfold jI; rw[if_neg (by have:=nZ; simp at this; simp[this]),if_pos (by simpa using rY)]),S.E⟩
  ·refine wp_skip<|ig _ _<|aiG (fun _ oJ=>?_)
   have hE0:=S.E
   have Zq:=(S.bx 0).1
   have ae4:=(S.bx 1).1
   have adl:=(S.bx 2).1
   obtain⟨wc,hwc⟩:∃z:World,z=u:=⟨_,rfl⟩
   rw[←hwc]at hE0 Zq ae4 adl
   have hcw:Ext wc u:=hwc▸Ext.rfl'
   have hv:s.key.valid=true:=by simpa using nZ
   have hno:e.key.named=true:=by simpa using rY
   have hsl:s.ns.length≤64:=by have:=(aP.oL.1 hv).2.1; rwa [show s.key.ns.length=s.ns.length from List.length_map ..]at this
   refine adr S 1 [.mem 2 0] [(16,s.v)] (fun ac S=>?_)
   have hwl:=(hcw).size
   refine aiQ S (some 17) (OB (h.below S.E) hlim (by omega)) ?_
   rintro e u ⟨m,rfl,hmo,hms,hmw,hmh,hmb,Xn⟩
   refine⟨_,rfl,Xn,fun ac S=>?_⟩
   have hwz:=((Ext.trans' hcw Xn)).size
   refine aiJ S 6 [.int .i64 0,.int .i64 0,.int .u8 0,.int .u8 0,.int .u8 0,.int .u8 0,.slice none 0 0] (fun ac u b25 E26 Dw S=>?_)
   have hge:wc.heap.size≤b25:=by omega
   refine aiL S 0 (off:=0) (cs:=m.cells) rfl (fun u C28 S=>?_)
   have XG:=aiP (Ext.trans' Xn E26) C28 (by have:=Xn.size; omega)
   refine aiF<|oJ _ _<|aiG (fun _ nI=>?_)
   have hmw:=And.intro hmw (And.intro hmh hmb)
   refine adr S 1 [.mem 2 0] [(18,e.v)] (fun ac S=>?_)
   have adH:=(own_base hwl (Wy hmo E26 C28 (.inr (Nat.le_of_eq Dw.symm))))
   have hml:m.ns.length=s.ns.length:=by have:=congrArg List.length hms; simpa using this
   refine Sx.ae3 S (some 19) hE0 ((Ext.trans' hcw XG)) (fun p hp=>by rcases List.mem_cons.1 hp with rfl | hp; exact Zq; rcases List.mem_cons.1 hp with rfl | hp; exact ae4; rcases List.mem_cons.1 hp with rfl | hp; exact adl; cases hp) (RJ (K:=K) (w0:=wc) ((Ext.trans' hcw XG)) (S.bx 0) hge adH.1 adH.2.1 adH.2.2 (fun n hn=>⟨fits_all hms (fun n hn=>(h.2.2.2 n hn).2) n hn,RG hms hlim n hn⟩) (he.below hE0) hel (by omega)) ?_
   rintro r u ⟨code,t,rfl,hE2,hX,hcp,hft,hres⟩
   refine⟨_,t.cells,rfl,hE2,hX,fun ac S=>?_⟩
   have htw:I64 t.w∧I64 t.h:=by rw[hres.2.1,hres.2.2,hmw.1,hmw.2.1]; exact⟨h.1,h.2.1⟩
   have hkm:keys m.ns=keys s.ns:=RF hms
   refine adr S 1 [] [(7,.int .i64 code)] fun ac S=>aiF<|nI _ _<|wp_seq_k fun _ qg=>aiG fun _ kM=>adr S 2 [] [(21,.bool ((code)==0))] fun ac S=>aiF (kM _ _ ?_)
   refine aiI S (fun nU=>?_) (fun nU=>?_)
   ·refine Vp.region<|adr S 1 [.mem 0 0] [(23,t.v)] fun ac S=>aiM S 24 (sN (K:=K) (s:=t) ⟨htw.1,htw.2,kY.ok (hcp) fun n hn=>(hft n hn).1⟩ (hg.below S.E)) fun ac u Xh S=>adr S 4 [] [(7,.int .i64 t.key.chk.1)] fun ac S=>aiF<|qg _ _<|wp_seq_k fun _ oK=>aiG fun _ nJ=>adr S 2 [] [(28,.bool ((t.key.chk.1) != 0))] fun ac S=>aiF (nJ _ _ ?_)
    refine aiI S (fun l9=>?_) (fun l9=>?_)
    ·refine aiG fun _ jG=>adr S 2 [] [(29,.agg #[.int .i64 0,.int .i64 0,.int .u8 0,.int .u8 0,.int .u8 0,.int .u8 0,.slice none 0 0]),(30,.int .i64 t.key.chk.1)] fun ac S=>aiL S 1 (off:=0) (cs:=[.int .i64 0,.int .i64 0,.int .u8 0,.int .u8 0,.int .u8 0,.int .u8 0,.slice none 0 0]) rfl (fun u C39 S=>?_)
     have XY:=iE.ch (Sx.On.ext hcp Xh) C39 Zq
     refine adr S 1 [] [(5,.int .i64 t.key.chk.1)] fun ac S=>aiF<|jG _ _<|Vp.rt ?_
     have hc0:code=0:=by simpa using nU
     have hap:=Zp he.2.2.2.1 hv hno hkm hmw (hc0▸hres) fun n h=>Gv h
     refine Sx.OD S 1 Tryz.results17 rfl (v := .agg (aS.cells .zero).toArray) (u := .int .i64 t.key.chk.1) ⟨.zero,_,rfl,tq (by rw[hap,if_neg (by simpa using l9)]),S.E⟩
    ·refine wp_skip<|oK _ _<|aiG fun _ qW=>adr S 1 [.mem 0 0] [(31,t.v)] fun ac S=>aiL S 1 (off:=0) (cs:=t.cells) rfl (fun u C42 S=>?_)
     have Md:=iE.ch (Sx.On.ext hcp Xh) C42 Zq
     refine adr S 1 [] [(5,.int .i64 0)] fun ac S=>aiF<|qW _ _<|Vp.rt ?_
     have hc0:code=0:=by simpa using nU
     have hap:=Zp he.2.2.2.1 hv hno hkm hmw (hc0▸hres) fun n h=>Gv h
     refine Sx.OD S 1 Tryz.results17 rfl (v := .agg (aS.cells t).toArray) (u := .int .i64 0) ⟨t,_,rfl,⟨by rw[hap,if_pos (by simpa using l9)],kY.le (Md) hE0.size,⟨htw.1,htw.2,kY.ok (Md) fun n hn=>(hft n hn).1⟩,hft⟩,S.E⟩
   ·refine wp_skip<|qg _ _<|wp_seq_k fun _ wE=>aiG (fun _ Bv=>?_)
    have hne:((code) != 0)=true:=by have:=nU; simpa using this
    refine adr S 2 [] [(28,.bool ((code) != 0))] fun ac S=>aiF (Bv _ _ ?_)
    refine aiI S (fun DJ=>?_) (fun DJ=>?_)
    ·refine aiG fun _ zV=>adr S 2 [] [(29,.agg #[.int .i64 0,.int .i64 0,.int .u8 0,.int .u8 0,.int .u8 0,.int .u8 0,.slice none 0 0]),(30,.int .i64 code)] fun ac S=>aiL S 1 (off:=0) (cs:=[.int .i64 0,.int .i64 0,.int .u8 0,.int .u8 0,.int .u8 0,.int .u8 0,.slice none 0 0]) rfl (fun u C48 S=>?_)
     have aaE:=iE.ch hcp C48 Zq
     refine adr S 1 [] [(5,.int .i64 code)] fun ac S=>aiF<|zV _ _<|Vp.rt ?_
     refine Sx.OD S 1 Tryz.results17 rfl (v := .agg (aS.cells .zero).toArray) (u := .int .i64 code) ⟨.zero,_,rfl,tq (aa7 he.2.2.2.1 hv hno hkm hres (by simpa using hne)),S.E⟩
    ·rw[hne]at DJ; cases DJ
end
section
open Go.RowKit
variable{α:Type}{K:Nat}
theorem all_nil{s m:aS}{es:List bC}{k:Nat}(hR:fD s.key (es.map bC.key) 0=fD m.key ((es.map bC.key).drop k) k)(hk:es.length≤k):fD s.key (es.map bC.key) 0=(m.key,(k:Int),0):=by
 rw[hR,List.drop_eq_nil_of_le (by simpa using hk)]; rfl
theorem all_cons{s m t:aS}{es:List bC}{e:bC}{code:Int}{k:Nat}(hR:fD s.key (es.map bC.key) 0=fD m.key ((es.map bC.key).drop k) k)(hk:k<es.length)(he:es[k]=e)(h:(t.key,code)=jI m.key e.key) :
  fD s.key (es.map bC.key) 0=if code=0 then fD t.key ((es.map bC.key).drop (k+1)) (k+1)else (.zero,(k:Int),code):=by
 rw[hR,List.drop_eq_getElem_cons (by simpa using hk),List.getElem_map,he]
 unfold fD
 rw[←h]
 cases hc:(es.map bC.key).drop (k+1)<;>rfl
end
section
theorem IsTree.adI{n:Nat}{f:Nat→Int}(T:IsTree n f){k i:Nat}(hk:k<n)(h:iL f k=(i:Int)):sD n f k≤sD n f i:=by
 obtain⟨h1,h2,h3⟩:=(T.Gf hk).1 h
 obtain⟨a1,a2,a3,a4⟩:=oU (n:=n) (f:=f) (i:=i) (by omega)
 obtain⟨b1,b2,b3,b4⟩:=oU (n:=n) (f:=f) hk
 by_cases hx:sD n f k≤sD n f i
 ·exact hx
 ·have:=b3 (sD n f i) h2 (by omega)
  have:=a4 (by omega)
  omega
theorem IsTree.OE{n:Nat}{f:Nat→Int}(T:IsTree n f){m k:Nat}(hk:k<n)(hm:f k<m):((vO f m k).length:Int)=f k+1:=by
 rw[T.Gh m k hk hm,List.length_map,List.length_range]
 have:=T.nn k hk
 omega
structure Way (n:Nat) (f:Nat→Int) (L:List Nat) (k:Nat):Prop where
 last:L.getLast?=some k
 head:∀(h:0<L.length),iL f L[0] = -1
 lt:∀x∈L,x<n
 next:∀j (h:j+1<L.length),iL f L[j+1]=(L[j]:Int)∧sD n f L[j+1]≤sD n f L[j]
theorem IsTree.way{n:Nat}{f:Nat→Int}(T:IsTree n f):∀(m k:Nat),k<n→f k<m→Way n f (vO f m k) k
 | 0,k,hk,h=>by have:=T.nn k hk; omega
 | m+1,k,hk,h=>by
  rcases Int.lt_or_le 0 (f k)with h0 | h0
  ·obtain⟨j,h1,h2,h3⟩:=T.KE hk h0
   have e:vO f (m+1) k=vO f m j++[k]:=by
    show(if iL f k<0 then []else vO f m (iL f k).toNat)++[k]=_
    rw[h1,if_neg (by omega),Int.toNat_natCast]
   have ih:=T.way m j (by omega) (by omega)
   have hlen:=T.OE (m:=m) (k:=j) (by omega) (by omega)
   have hnn:=T.nn j (by omega)
   rw[e]
   refine⟨List.getLast?_concat ..,fun hp=>?_,fun x hx=>?_,fun i hi=>?_⟩
   ·rw[List.getElem_append_left (by omega)]
    exact ih.head _
   ·rcases List.mem_append.1 hx with hx | hx
    ·exact ih.lt x hx
    ·rw[List.mem_singleton.1 hx]; exact hk
   ·rw[List.length_append,List.length_singleton]at hi
    by_cases hl:i+1<(vO f m j).length
    ·rw[List.getElem_append_left hl,List.getElem_append_left (by omega)]
     exact ih.next i hl
    ·have e2:(vO f m j++[k])[i+1]'(by rw[List.length_append,List.length_singleton]; omega)=k:=by
      rw[List.getElem_append_right (by omega)]; simp
     have e3:(vO f m j++[k])[i]'(by rw[List.length_append,List.length_singleton]; omega)=j:=by
      rw[List.getElem_append_left (by omega)]
      have:=ih.last
      rw[List.getLast?_eq_getElem?,List.getElem?_eq_getElem (by omega)]at this
      have h5:=Option.some.inj this
      have h6:i=(vO f m j).length-1:=by omega
      subst h6
      exact h5
     rw[e2,e3]
     exact⟨h1,T.adI hk h1⟩
  ·have hz:f k=0:=by have:=T.nn k hk; omega
   have hp:=(T.par_none hk).2 hz
   have e:vO f (m+1) k=[k]:=by
    show(if iL f k<0 then []else vO f m (iL f k).toNat)++[k]=_
    rw[hp,if_pos (by decide)]; rfl
   rw[e]
   refine⟨rfl,fun _=>hp,fun x hx=>by rw[List.mem_singleton.1 hx]; exact hk,fun i hi=>?_⟩
   rw[List.length_singleton]at hi; omega
end
end Go.Proofs.YtfmkkemfhjkajaaGreatDoor
