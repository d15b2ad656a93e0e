/- A region that draws its order, walked order by order. No -/
import Derived.Test.YtfmkkemfhjkajaaGreatDoorHoist2
import Derived.Test.YtfmkkemfhjkajaaGreatDoorScW5
import Derived.Test.YtfmkkemfhjkajaaGreatDoorPk31
import Derived.Test.YtfmkkemfhjkajaaGreatDoorOwn
set_option linter.unusedVariables false
section
namespace Go.Sx
open Go.Proofs.YtfmkkemfhjkajaaGreatDoor Go.RowKit Go.Rel
section
variable{P:Program}{os:List Oper}{Q:Exit→Act→World→Prop}{w0:World}{a:Act}{w:World}{n:Nat}{l:List (Nat×Value)}{bl:List (Nat×List Value)}{vs:List iF}
def one(os:List Oper)(i:Nat):List Oper:=(os.drop i).take 1
theorem agE{ops:Array Oper}{b:Nat}{A:List Value}(S:St w0 a w n l ((b,A)::bl) vs){wc:World}{f:FuncId}{args:Array Value}(d:Option Nat){R:Ending→World→Prop}(h0:Ext w0 wc)(hcw:Ext wc w)(hlt:∀p∈bl,p.1<wc.heap.size)(hc:Calls P f args w R)
  (next:∀e w',R e w'→∃v A',e = .returned v∧Ext wc w'∧Bx w' b (List.toArray A')∧∀a',St w0 a' w' n (XW l d v) ((b,A')::bl) []→wpList P ops Q (os.drop 1) a' w')
  (hx:callOf P os l=some (f,args,d):=by kernel_rfl) (hd:JC n d=true:=by rfl):wpList P ops Q os a w:=by
 cases os with
 | nil=>cases hx
 | cons o os =>
  unfold callOf at hx;simp only at hx;split at hx
  ·rename_i f' args' hg hav hev;simp only[Option.some.injEq,Prod.mk.injEq]at hx;obtain⟨rfl,rfl,rfl⟩:=hx;simp only[Bool.or_eq_false_iff]at hav;have hrun:(execOp a.eval o).run P w = .ok (.enter f' args') w:=qO (Std.act a) (jR (dJ S.s) o) (p:=[]) rfl hav.1 (by simpa using hav.2) hev;unfold wpList;rw[if_pos (by simp[Region.wanted,hg])];left;unfold Oper.wp;rw[hrun];simp only[Oper.upon];refine hc.mono fun e w' hR=>?_;obtain⟨v,A',rfl,hE,hX,hn⟩:=next e w' hR;refine hn _ ⟨EC S.s hd v,Ext.trans' h0 hE,fun p hp=>?_,S.apart,fun m hm=>(by cases hm)⟩;rcases List.mem_cons.1 hp with rfl | hp
   ·exact⟨hX,(S.own _ List.mem_cons_self).2⟩
   have h1:=S.own p (List.mem_cons_of_mem _ hp);have hl:=hlt p hp;exact⟨⟨Nat.lt_of_lt_of_le hl hE.size,fun i=>(hE.cell (p:=⟨p.1,i,none⟩) hl).trans ((hcw.cell (p:=⟨p.1,i,none⟩) hl).symm.trans (h1.1.2.1 i)),fun i=>(hE.frozen (p:=⟨p.1,i,none⟩) hl).trans ((hcw.frozen (p:=⟨p.1,i,none⟩) hl).symm.trans (h1.1.2.2 i))⟩,h1.2⟩
  cases hx
theorem Dy(S:St w0 a w n l bl vs)(k:Nat){fn:Func}{R:Ending→World→Prop}{r s t b:Nat}{ty:TypeId}{A:List Value}{v u z:Value}(hr:fn.results = #[.cell r ty,.tmp s,.tmp t])(hk:bl[k]?=some (b,A))(h:R (.returned (.tuple #[v,u,z])) w)
  (hv:Vp.ev l (.tmp r)=some (.pointer (some ⟨b,0,none⟩)):=by kernel_rfl) (hu:Vp.ev l (.tmp s)=some u:=by rfl) (hz:Vp.ev l (.tmp t)=some z:=by rfl) (hl:Vz P ty A=some v:=by kernel_rfl):bodyPost P fn R .ret a w:=by
 refine⟨S.s.defers,_,?_,h⟩;have h1:=S.s.ev hv;have h3:=S.s.ev hu;have h4:=S.s.ev hz;have h2:=S.var hk hl;unfold results;rw[hr];simp only[Act.eval,Array.getD_eq_getD_getElem?]at h1 h3 h4;simp[h1,h3,h4,asAddr,h2]
end
end Go.Sx
end
namespace Go.Proofs.YtfmkkemfhjkajaaGreatDoor
section
open Go.RowKit
variable{α:Type}{K:Nat}
theorem Yh{B b:Nat}{u1 u2 u3:World}{m:aF}(h:m.own B u1)(hE:Ext u1 u2)(hC:Ch b u2 u3)(hb:b<B∨u1.heap.size≤b) :
  m.own B u3∧m.s.ownBlock≠some b∧Sx.On (fun i=>B≤i∧i≠b∧m.s.ownBlock≠some i) (fun W=>∀n∈m.ns,n.oN B W) u3:=by
 have hr2:=Sx.jc h.row hE;have hob:m.s.ownBlock≠some b:=fun e=>by have:=Sx.iR h.row e; omega
 have hn:Sx.On (fun i=>B≤i∧i≠b∧m.s.ownBlock≠some i) (fun W=>∀n∈m.ns,n.oN B W) u3:=fun w' hs hk =>
  h.nodes w' (Nat.le_trans (Nat.le_trans hE.size hC.size) hs) fun k h1 h2=>by
   have hkb:k≠b:=by omega
   have h3:k<u2.heap.size:=Nat.lt_of_lt_of_le h1 hE.size
   exact((hk k (Nat.lt_of_lt_of_le h3 hC.size) ⟨h2.1,hkb,h2.2⟩).trans (hC.block k h3 fun e=>hkb (Option.some.inj e))).trans (hE.block k h1)
 exact⟨⟨Sx.mV hr2 fun g hg=>hC.block g (Sx.iR hr2 hg).2 fun e=>hob (hg.trans e),hn.mono fun i hi=>⟨hi.1,hi.2.2⟩⟩,hob,hn⟩
theorem own_base{B B' b:Nat}{u:World}{m:aF}(hB:B'≤B)(h:m.own B u∧m.s.ownBlock≠some b∧Sx.On (fun i=>B≤i∧i≠b∧m.s.ownBlock≠some i) (fun W=>∀n∈m.ns,n.oN B W) u) :
  m.own B' u∧m.s.ownBlock≠some b∧Sx.On (fun i=>B'≤i∧i≠b∧m.s.ownBlock≠some i) (fun W=>∀n∈m.ns,n.oN B' W) u:=
 ⟨⟨fF h.1.row hB,(h.1.nodes.mono fun i hi=>⟨Nat.le_trans hB hi.1,hi.2⟩).imp fun _ k n hn=>yu (k n hn) hB⟩,h.2.1,(h.2.2.mono fun i hi=>⟨Nat.le_trans hB hi.1,hi.2⟩).imp fun _ k n hn=>yu (k n hn) hB⟩
def Le(base:Nat)(K:Nat)(s:aF)(e:aX)(code:Int)(t:aF)(w:World):Prop:=
 (t.key,code)=dP s.key e.key∧fK base t.s t.ns w∧bP K w t∧∀n∈t.ns,n.BX K
theorem jA{base:Nat}{s:aF}{e:aX}{code:Int}{w:World}(h:dP s.key e.key=(.zero,code)):Le base K s e code .zero w:=
 ⟨h.symm,Sx.On.and (Sx.dV (f:=aj.cells) (L:=[]) (fun _=>rfl) ⟨rfl,.inl ⟨rfl,rfl⟩⟩ rfl rfl) (fun _ _ _ n hn=>by cases hn),lC w,fun n hn=>(by cases hn)⟩
theorem acP{s:aF}{e:aX}{code:Int}{m t:aF}(hd:I64 e.depth)(hv:s.key.valid=true)(hn:e.key.named=true)(hk:keys m.ns=keys s.ns)(hr:aa6 m e code t)(hc:code≠0):dP s.key e.key=(.zero,code):=by
 rw[←JW hd];unfold L8;rw[if_neg (by simp[hv]),if_neg (by simp[hn])];have h1:=hr.1;rw[hk]at h1;rw[show s.key.ns=keys s.ns from rfl];cases hp:gy (keys s.ns) e.key with
 | error n=>rw[hp]at h1; rw[show code=n from h1]
 | ok l=>rw[hp]at h1; exact absurd h1.1 hc
theorem aa7{s:aF}{e:aX}{m t:aF}(hd:I64 e.depth)(hv:s.key.valid=true)(hn:e.key.named=true)(hk:keys m.ns=keys s.ns)(h3:m.w=s.w∧m.h=s.h∧m.bg=s.bg)(hr:aa6 m e 0 t)(hne:∀n,gy (keys s.ns) e.key = .error n→n≠0):dP s.key e.key=if t.key.chk.1=0 then (t.key,0)else (.zero,t.key.chk.1):=by
 rw[←JW hd];unfold L8;rw[if_neg (by simp[hv]),if_neg (by simp[hn])];have h1:=hr.1;rw[hk]at h1;rw[show s.key.ns=keys s.ns from rfl];cases hp:gy (keys s.ns) e.key with
 | error n=>rw[hp]at h1; exact absurd h1.symm (hne n hp)
 | ok l =>
  rw[hp]at h1;have ht:s.key.with' e.key l=t.key:=by
   unfold aO.with' aF.key;rw[hr.2.1,hr.2.2,h1.2.2,←h1.2.1,h3.1,h3.2.1,h3.2.2];rfl
  simp only[ht]
theorem Ih{l:List aI}{e:eX}{n:Int}(h:gy l e = .error n):n≠0:=by
 unfold gy fJ at h;(repeat' split at h)<;>first | (cases h; decide) | cases h
set_option maxRecDepth 100000 in
set_option maxHeartbeats 3200000 in
theorem xH{w:World}{s:aF}{e:aX}(h:bP K w s)(hg:jX w)(he:oZ K w e)(hlim:∀n∈s.ns,n.lim)(hel:e.node.lim) :
  Calls Tryz.prog 17 #[s.v,e.v] w fun r w'=>∃(t:aF) (code:Int),r = .returned (.tuple #[t.v,.i code])∧Le w.heap.size K s e code t w'∧Ext w w':=by
 skip;refine akk Tryz.func17 Tryz.ntmps17 fun ac S=>akg fun _ aP=>akh S 2 s.cells fun ac u b2 E3 hb4 S=>akh S 3 e.cells fun ac u b5 E6 hb7 S=>akh S 4 [.i 0,.i 0,.int .u8 0,.int .u8 0,.int .u8 0,.int .u8 0,.slice none 0 0] fun ac u b8 E9 vS S=>adr S 1 [] [(5,.i 0)] fun S=>akf<|aP _ _<|wp_seq_k fun _ dn=>akg fun _ bV=>adr S 1 [.mem 2 0] [(8,s.v)] fun S=>akn S 9 (qw (h.below S.E) (hg.below S.E)) fun ac u Et S=>adr S 1 [] [(10,.bool (!s.key.valid))] fun S=>akf (bV _ _ ?_);refine aki S (fun lW=>?_) (fun lW=>?_)
 ·refine akg fun _ fP=>adr S 1 [] [(11,.agg #[.i 0,.i 0,.int .u8 0,.int .u8 0,.int .u8 0,.int .u8 0,.slice none 0 0])] fun S=>akl S 0 (off:=0) (cs:=[.i 0,.i 0,.int .u8 0,.int .u8 0,.int .u8 0,.int .u8 0,.slice none 0 0]) rfl fun u Rz S=>adr S 1 [] [(5,.i 18)] fun S=>akf<|fP _ _<|Vp.rt ?_;refine Sx.wZ S 0 Tryz.results17 rfl (v := .agg (aF.cells .zero).toArray) (u := .i 18) ⟨.zero,_,rfl,jA (by unfold dP; rw[if_pos (by simpa using lW)]),S.E⟩
 refine wp_skip<|dn _ _<|wp_seq_k fun _ gI=>akg fun _ jm=>adr S 1 [.mem 1 0] [(12,e.v)] fun S=>akn S 13 (Yg (he.below S.E)) fun ac u RH S=>adr S 1 [] [(14,.bool (!e.key.named))] fun S=>akf (jm _ _ ?_);refine aki S (fun tJ=>?_) (fun tJ=>?_)
 ·refine akg fun _ jJ=>adr S 1 [] [(15,.agg #[.i 0,.i 0,.int .u8 0,.int .u8 0,.int .u8 0,.int .u8 0,.slice none 0 0])] fun S=>akl S 0 (off:=0) (cs:=[.i 0,.i 0,.int .u8 0,.int .u8 0,.int .u8 0,.int .u8 0,.slice none 0 0]) rfl fun u ZI S=>adr S 1 [] [(5,.i 2)] fun S=>akf<|jJ _ _<|Vp.rt ?_;refine Sx.wZ S 0 Tryz.results17 rfl (v := .agg (aF.cells .zero).toArray) (u := .i 2) ⟨.zero,_,rfl,jA (by unfold dP; rw[if_neg (by have:=lW; simp at this; simp[this]),if_pos (by simpa using tJ)]),S.E⟩
 refine wp_skip<|gI _ _<|akg (fun _ jU=>?_);have hE0:=S.E;have aa8:=(S.bx 0).1;have agF:=(S.bx 1).1;have aeD:=(S.bx 2).1;obtain⟨wc,hwc⟩:∃z:World,z=u:=⟨_,rfl⟩;rw[←hwc]at hE0 aa8 agF aeD;have hcw:Ext wc u:=hwc▸Ext.rfl';have hv:s.key.valid=true:=by simpa using lW
 have hno:e.key.named=true:=by simpa using tJ
 have hsl:s.ns.length≤64:=by have:=(aO.nG.1 hv).2.1; rwa [show s.key.ns.length=s.ns.length from List.length_map ..]at this
 refine adr S 1 [.mem 2 0] [(16,s.v)] (fun S=>?_);have hwl:=(hcw).size;refine ako S (some 17) (Ef (h.below S.E) hlim (by omega)) ?_;rintro e u ⟨m,rfl,hmo,hms,hmw,Yi,hmb,Nz⟩;refine⟨_,rfl,Nz,fun ac S=>?_⟩;have hwz:=((Ext.trans' hcw Nz)).size;refine akh S 6 [.i 0,.i 0,.int .u8 0,.int .u8 0,.int .u8 0,.int .u8 0,.slice none 0 0] (fun ac u b25 UW FM S=>?_);have hge:wc.heap.size≤b25:=by omega
 refine akl S 0 (off:=0) (cs:=m.cells) rfl (fun u C28 S=>?_);have Bf:=akp (Ext.trans' Nz UW) C28 (by have:=Nz.size; omega);refine akf<|jU _ _<|akg (fun _ jM=>?_);have hmw:=And.intro hmw (And.intro Yi hmb);refine adr S 1 [.mem 2 0] [(18,e.v)] (fun S=>?_);have aff:=(own_base hwl (Yh hmo UW C28 (.inr (Nat.le_of_eq FM.symm))));have hml:m.ns.length=s.ns.length:=by have:=congrArg List.length hms; simpa using this
 refine Sx.agE S (some 19) hE0 ((Ext.trans' hcw Bf)) (fun p hp=>by rcases List.mem_cons.1 hp with rfl | hp; exact aa8; rcases List.mem_cons.1 hp with rfl | hp; exact agF; rcases List.mem_cons.1 hp with rfl | hp; exact aeD; cases hp) (Uk (K:=K) (w0:=wc) ((Ext.trans' hcw Bf)) (S.bx 0) hge aff.1 aff.2.1 aff.2.2 (fun n hn=>⟨fits_all hms (fun n hn=>(h.2.2.2 n hn).2) n hn,sU hms hlim n hn⟩) (he.below hE0) hel (by omega)) ?_;rintro r u ⟨code,t,rfl,hE2,hX,hcp,hft,hres⟩;refine⟨_,t.cells,rfl,hE2,hX,fun ac S=>?_⟩;have htw:I64 t.w∧I64 t.h:=by rw[hres.2.1,hres.2.2,hmw.1,hmw.2.1]; exact⟨h.1,h.2.1⟩
 have hkm:keys m.ns=keys s.ns:=wL hms;refine adr S 1 [] [(7,.i code)] fun S=>akf<|jM _ _<|wp_seq_k fun _ qJ=>akg fun _ kW=>adr S 2 [] [(21,.bool ((code)==0))] fun S=>akf (kW _ _ ?_);refine aki S (fun lU=>?_) (fun lU=>?_)
 ·refine Vp.region<|adr S 1 [.mem 0 0] [(23,t.v)] fun S=>akn S 24 (xI (K:=K) (s:=t) ⟨htw.1,htw.2,fK.ok (hcp) fun n hn=>(hft n hn).1⟩ (hg.below S.E)) fun ac u QO S=>adr S 4 [] [(7,.i t.key.chk.1)] fun S=>akf<|qJ _ _<|wp_seq_k fun _ oh=>akg fun _ lG=>adr S 2 [] [(28,.bool ((t.key.chk.1) != 0))] fun S=>akf (lG _ _ ?_);refine aki S (fun pI=>?_) (fun pI=>?_)
  ·refine akg fun _ jC=>adr S 2 [] [(29,.agg #[.i 0,.i 0,.int .u8 0,.int .u8 0,.int .u8 0,.int .u8 0,.slice none 0 0]),(30,.i t.key.chk.1)] fun S=>akl S 1 (off:=0) (cs:=[.i 0,.i 0,.int .u8 0,.int .u8 0,.int .u8 0,.int .u8 0,.slice none 0 0]) rfl (fun u YZ S=>?_);have Ze:=dY.ch (Sx.On.ext hcp QO) YZ aa8;refine adr S 1 [] [(5,.i t.key.chk.1)] fun S=>akf<|jC _ _<|Vp.rt ?_;have hc0:code=0:=by simpa using lU
   have hap:=aa7 he.2.2.2.1 hv hno hkm hmw (hc0▸hres) fun n h=>Ih h;refine Sx.wZ S 1 Tryz.results17 rfl (v := .agg (aF.cells .zero).toArray) (u := .i t.key.chk.1) ⟨.zero,_,rfl,jA (by rw[hap,if_neg (by simpa using pI)]),S.E⟩
  refine wp_skip<|oh _ _<|akg fun _ pJ=>adr S 1 [.mem 0 0] [(31,t.v)] fun S=>akl S 1 (off:=0) (cs:=t.cells) rfl (fun u ZJ S=>?_);have IZ:=dY.ch (Sx.On.ext hcp QO) ZJ aa8;refine adr S 1 [] [(5,.i 0)] fun S=>akf<|pJ _ _<|Vp.rt ?_;have hc0:code=0:=by simpa using lU
  have hap:=aa7 he.2.2.2.1 hv hno hkm hmw (hc0▸hres) fun n h=>Ih h;refine Sx.wZ S 1 Tryz.results17 rfl (v := .agg (aF.cells t).toArray) (u := .i 0) ⟨t,_,rfl,⟨by rw[hap,if_pos (by simpa using pI)],fK.le (IZ) hE0.size,⟨htw.1,htw.2,fK.ok (IZ) fun n hn=>(hft n hn).1⟩,hft⟩,S.E⟩
 refine wp_skip<|qJ _ _<|wp_seq_k fun _ uw=>akg (fun _ xB=>?_);have hne:((code) != 0)=true:=by have:=lU; simpa using this
 refine adr S 2 [] [(28,.bool ((code) != 0))] fun S=>akf (xB _ _ ?_);refine aki S (fun EG=>?_) (fun EG=>?_)
 ·refine akg fun _ zi=>adr S 2 [] [(29,.agg #[.i 0,.i 0,.int .u8 0,.int .u8 0,.int .u8 0,.int .u8 0,.slice none 0 0]),(30,.i code)] fun S=>akl S 1 (off:=0) (cs:=[.i 0,.i 0,.int .u8 0,.int .u8 0,.int .u8 0,.int .u8 0,.slice none 0 0]) rfl (fun u C48 S=>?_);have NT:=dY.ch hcp C48 aa8;refine adr S 1 [] [(5,.i code)] fun S=>akf<|zi _ _<|Vp.rt ?_;refine Sx.wZ S 1 Tryz.results17 rfl (v := .agg (aF.cells .zero).toArray) (u := .i code) ⟨.zero,_,rfl,jA (acP he.2.2.2.1 hv hno hkm hres (by simpa using hne)),S.E⟩
 rw[hne]at EG; cases EG
end
section
open Go.RowKit
variable{α:Type}{K:Nat}
abbrev VU (K:Nat)(w:World)(v:Value)(l:List aX):Prop:=aN 55 aX.cells w v l∧∀e∈l,oZ K w e
theorem yV{base b0:Nat}{v:Value}{l:List aj}{w:World}(h:wM base v l w)(hb:b0≤base):wM b0 v l w:=⟨h.1.le hb,fun n hn=>yu (h.2 n hn) hb⟩
theorem all_nil{s m:aF}{es:List aX}{k:Nat}(hR:dF s.key (es.map aX.key) 0=dF m.key ((es.map aX.key).drop k) k)(hk:es.length≤k):dF s.key (es.map aX.key) 0=(m.key,(k:Int),0):=by
 rw[hR,List.drop_eq_nil_of_le (by simpa using hk)]; rfl
theorem all_cons{s m t:aF}{es:List aX}{e:aX}{code:Int}{k:Nat}(hR:dF s.key (es.map aX.key) 0=dF m.key ((es.map aX.key).drop k) k)(hk:k<es.length)(he:es[k]=e)(h:(t.key,code)=dP m.key e.key) :
  dF s.key (es.map aX.key) 0=if code=0 then dF t.key ((es.map aX.key).drop (k+1)) (k+1)else (.zero,(k:Int),code):=by
 rw[hR,List.drop_eq_getElem_cons (by simpa using hk),List.getElem_map,he];unfold dF;rw[←h];cases hc:(es.map aX.key).drop (k+1)<;>rfl
set_option maxRecDepth 100000 in
set_option maxHeartbeats 3200000 in
theorem Ii{w:World}{s:aF}{v:Value}{es:List aX}(h:bP K w s)(hg:jX w)(hes:VU K w v es)(hlim:∀n∈s.ns,n.lim)(hel:∀e∈es,e.node.lim) :
  Calls Tryz.prog 32 #[s.v,v] w fun r w'=>∃(t:aF) (n code:Int),r = .returned (.tuple #[t.v,.i n,.i code])∧((s.key.valid=false∧(t.key,n,code)=(aO.zero,0,18)∨s.key.valid=true∧(t.key,n,code)=dF s.key (es.map aX.key) 0)∧fK w.heap.size t.s t.ns w'∧bP K w' t∧∀n∈t.ns,n.BX K)∧Ext w w':=by
 obtain⟨a,cap,rfl⟩:=hes.1.shape;have hmax:es.length≤9223372036854775807:=hes.1.len;refine akk Tryz.func32 Tryz.ntmps32 fun ac S=>akg fun _ aP=>akh S 2 s.cells fun ac u b2 E3 hb4 S=>akh S 4 [.i 0,.i 0,.int .u8 0,.int .u8 0,.int .u8 0,.int .u8 0,.slice none 0 0] fun ac u b5 E6 hb7 S=>adr S 2 [] [(5,.i 0),(6,.i 0)] fun S=>akf<|aP _ _<|wp_seq_k fun _ dM=>akg fun _ gX=>adr S 1 [.mem 1 0] [(12,s.v)] fun S=>akn S 13 (qw (h.below S.E) (hg.below S.E)) fun ac u zV S=>adr S 1 [] [(14,.bool (!s.key.valid))] fun S=>akf (gX _ _ ?_);refine aki S (fun fA=>?_) (fun fA=>?_)
 ·refine akg fun _ bV=>adr S 1 [] [(15,.agg #[.i 0,.i 0,.int .u8 0,.int .u8 0,.int .u8 0,.int .u8 0,.slice none 0 0])] fun S=>akl S 0 (off:=0) (cs:=[.i 0,.i 0,.int .u8 0,.int .u8 0,.int .u8 0,.int .u8 0,.slice none 0 0]) rfl fun u C13 S=>adr S 2 [] [(5,.i 0),(6,.i 18)] fun S=>akf<|bV _ _<|Vp.rt ?_;refine Sx.Dy S 0 Tryz.results32 rfl (v := .agg (aF.cells .zero).toArray) (u := .i 0) (z := .i 18) ⟨.zero,_,_,rfl,⟨.inl ⟨by simpa using fA,rfl⟩,Sx.On.and (Sx.dV (f:=aj.cells) (L:=[]) (fun _=>rfl) ⟨rfl,.inl ⟨rfl,rfl⟩⟩ rfl rfl) (fun _ _ _ n hn=>by cases hn),lC _,fun n hn=>by cases hn⟩,S.E⟩
 refine wp_skip<|dM _ _<|akg (fun _ fC=>?_);have R:=Sx.Rw.nil S;have hv:s.key.valid=true:=by simpa using fA
 have hsl:s.ns.length≤64:=by have:=(aO.nG.1 hv).2.1; rwa [show s.key.ns.length=s.ns.length from List.length_map ..]at this
 refine adr S 1 [.mem 1 0] [(16,s.v)] (fun S=>?_);have q15:=S.E.size;have q16:=R.lt;refine ako S (some 17) (Ef (h.below S.E) hlim (by omega)) ?_;rintro e u ⟨m0,rfl,hmo,hms,hmw,Yi,hmb,Eu⟩;refine⟨_,rfl,Eu,fun ac S=>?_⟩;obtain⟨R,Y18⟩:=R.cO S (Sx.Stp.ext Eu);have G19:=Sx.On.imp (Sx.dY.ow hmo.cp q15 q16) fun _ h=>yV h q15;refine akh S 7 [.i 0,.i 0,.int .u8 0,.int .u8 0,.int .u8 0,.int .u8 0,.slice none 0 0] fun ac u b20 zo Df S=>akl S 0 (off:=0) (cs:=m0.cells) rfl fun u NC S=>akf<|fC _ _<|wp_seq_k fun _ jB=>akg fun _ nZ=>adr S 3 [] [(18,.slice a es.length cap),(19,.i es.length),(20,.i 0)] fun S=>akf<|nZ _ _<|wp_block ?_;have hk0:m0.key=s.key:=by unfold aF.key; rw[hmw,Yi,hmb]; exact congrArg _ (wL hms)
 obtain⟨R,Y26⟩:=R.cO S (Sx.Stp.trans (Sx.Stp.uy zo Df) (Sx.Stp.AU NC (by simp[Sx.vb])));refine Vp.loop (ι:=Nat×aF) (fun p a' w'=>p.1≤es.length∧((I64 p.2.w∧I64 p.2.h)∧(∀n∈p.2.ns,n.BX K)∧dF s.key (es.map aX.key) 0=dF p.2.key ((es.map aX.key).drop p.1) p.1)∧Sx.Rw w w' [(b20,p.2.cells),(b5,[.i 0,.i 0,.int .u8 0,.int .u8 0,.int .u8 0,.int .u8 0,.slice none 0 0]),(b2,s.cells)] []∧Sx.Ow w.heap.size (Sx.Ob [(b20,p.2.cells),(b5,[.i 0,.i 0,.int .u8 0,.int .u8 0,.int .u8 0,.int .u8 0,.slice none 0 0]),(b2,s.cells)] []) (fun W=>wM w.heap.size p.2.s p.2.ns W) w'∧Sx.St w a' w' 41 [(0,s.v),(1,.slice a es.length cap),(2,.pointer (some ⟨b2,0,none⟩)),(4,.pointer (some ⟨b5,0,none⟩)),(5,.i 0),(6,.i 0),(7,.pointer (some ⟨b20,0,none⟩)),(18,.slice a es.length cap),(19,.i es.length),(20,.i p.1)] [(b20,p.2.cells),(b5,[.i 0,.i 0,.int .u8 0,.int .u8 0,.int .u8 0,.int .u8 0,.slice none 0 0]),(b2,s.cells)] []) (fun p=>es.length-p.1) (0,m0) ⟨Nat.zero_le _,⟨⟨hmw▸h.1,Yi▸h.2.1⟩,fun n hn=>⟨fits_all hms (fun n hn=>(h.2.2.2 n hn).2) n hn,sU hms hlim n hn⟩,by rw[hk0]; rfl⟩,R,(Sx.On.step G19 Y26),S.sn⟩ ?_;rintro⟨k,m⟩ ac u hI;try dsimp only at hI
 obtain⟨hk,hR,R,qY,S⟩:=hI;refine akg fun _ jK=>adr S 1 [] [(21,.bool ((k:Int)<(es.length:Int)))] fun S=>akf<|jK _ _<|wp_seq_k (fun _ jh=>?_);refine aki S (fun hc29=>?_) (fun hc29=>?_)
 ·refine wp_skip<|jh _ _<|wp_seq_k fun _ jM=>wp_block<|akg (fun _ qJ=>?_);have Yj:k<es.length:=by have:=of_decide_eq_true hc29; omega
  obtain⟨b32,o33,rfl,e38,acQ,aaT,aiH⟩:=Vp.gY hes.1 (fun _=>rfl) (k) Yj;have S:=S.view0 aaT aiH;refine adr S 3 [.idx k es.length,.mem 3 0] [(22,.i k),(24,e38.v)] (hk:=⟨Yj,trivial⟩) fun S=>akh S 9 (Sx.L [.i 0,.i 0,.i 0,.i 0,.i 0,.i 0,.i 0]++Sx.za++Sx.L [.slice none 0 0,.i 0,.int .u8 0,.i 0,.bool false,.bool false,.slice none 0 0,.i 0,.slice none 0 0,.i 0,.i 0,.i 0,.i 0,.slice none 0 0,.i 0,.slice none 0 0,.i 0,.i 0,.slice none 0 0,.i 0,.int .u8 0,.int .u8 0,.int .u8 0,.int .u8 0]) fun ac u b40 E41 aax S=>adr S 1 [] [(8,.i k)] fun S=>akl S 0 (off:=0) (cs:=e38.cells) rfl fun u YX S=>akf<|qJ _ _<|akg fun _ uw=>adr S 2 [.mem 1 0,.mem 0 0] [(26,m.v),(27,e38.v)] (fun S=>?_);obtain⟨R,Y45⟩:=R.cO S (Sx.Stp.trans (Sx.Stp.uy E41 aax) (Sx.Stp.AU YX (by simp[Sx.vb])));have q46:=S.E.size;have q47:=R.lt;refine ako S (some 28) (xH (K:=K) (s:=m) (e:=e38) ⟨hR.1.1,hR.1.2,fK.ok (Sx.Ow.dep (Sx.On.step qY Y45)) fun n hn=>(hR.2.1 n hn).1⟩ (hg.below S.E) ((hes.2 _ (acQ▸List.getElem_mem Yj)).below S.E) (fun n hn=>(hR.2.1 n hn).2) (hel _ (acQ▸List.getElem_mem Yj))) ?_;rintro e u ⟨t,code,rfl,har,E48⟩;refine⟨_,rfl,E48,fun ac S=>?_⟩;obtain⟨R,Y49⟩:=R.cO S (Sx.Stp.ext E48);have G50:=Sx.On.imp (Sx.dY.ow har.2.1 q46 q47) fun _ h=>yV h q46;refine adr S 3 [] [(29,t.v),(30,.i code)] fun S=>akh S 10 [.i 0,.i 0,.int .u8 0,.int .u8 0,.int .u8 0,.int .u8 0,.slice none 0 0] fun ac u b51 E52 agp S=>akl S 0 (off:=0) (cs:=t.cells) rfl fun u C54 S=>adr S 1 [] [(11,.i code)] fun S=>akf<|uw _ _<|wp_seq_k fun _ zT=>akg fun _ CS=>adr S 2 [] [(32,.bool ((code) != 0))] fun S=>akf (CS _ _ ?_);refine aki S (fun afg=>?_) (fun afg=>?_)
  ·refine akg fun _ Y7=>adr S 3 [] [(33,.agg #[.i 0,.i 0,.int .u8 0,.int .u8 0,.int .u8 0,.int .u8 0,.slice none 0 0]),(34,.i k),(35,.i code)] fun S=>akl S 3 (off:=0) (cs:=[.i 0,.i 0,.int .u8 0,.int .u8 0,.int .u8 0,.int .u8 0,.slice none 0 0]) rfl fun u C59 S=>adr S 2 [] [(5,.i k),(6,.i code)] fun S=>akf<|Y7 _ _<|Vp.rt ?_;refine Sx.Dy S 3 Tryz.results32 rfl (v := .agg (aF.cells .zero).toArray) (u := .i k) (z := .i code) ⟨.zero,_,_,rfl,⟨.inr ⟨hv,by rw[all_cons hR.2.2 Yj acQ har.1,if_neg (by simpa using afg)]; rfl⟩,Sx.On.and (Sx.dV (f:=aj.cells) (L:=[]) (fun _=>rfl) ⟨rfl,.inl ⟨rfl,rfl⟩⟩ rfl rfl) (fun _ _ _ n hn=>by cases hn),lC _,fun n hn=>by cases hn⟩,S.E⟩
  refine wp_skip<|zT _ _<|Vp.region<|adr S 1 [.mem 0 0] [(36,t.v)] fun S=>akl S 2 (off:=0) (cs:=t.cells) rfl fun u Ns S=>akf<|jM _ _<|Vp.region<|adr S 2 [.re 37 (.i (IntKind.i64.wrap ((k:Int)+1))) (.i (k+1:Nat))] [(20,.i (k+1:Nat))] (hk:=⟨aks (by omega),trivial⟩) fun S=>akf ?_;obtain⟨R,Y61⟩:=R.cO S (Sx.Stp.trans (Sx.Stp.uy E52 agp) (Sx.Stp.trans (Sx.Stp.AU C54 (by simp[Sx.vb])) (Sx.Stp.AU Ns (by simp[Sx.vb]))));have S:=S.oq 2;obtain⟨R,Y62⟩:=R.cO S (Sx.Stp.uX 2);show ∃i',_∧_;exact⟨((k+1),t),⟨by omega,⟨⟨har.2.2.1.1,har.2.2.1.2.1⟩,har.2.2.2,by rw[all_cons hR.2.2 Yj acQ har.1,if_pos (by simpa using afg)]⟩,R,(Sx.On.step G50 (Sx.Stp.trans Y61 Y62)),S.sn⟩,by show _-_<_-_; omega⟩
 refine wp_exit<|jB _ _<|akg fun _ aaI=>adr S 3 [.mem 0 0] [(38,m.v),(40,.i es.length)] fun S=>akl S 1 (off:=0) (cs:=m.cells) rfl fun u C64 S=>adr S 2 [] [(5,.i es.length),(6,.i 0)] fun S=>akf<|aaI _ _<|Vp.rt ?_;obtain⟨R,Y65⟩:=R.cO S (Sx.Stp.AU C64 (by simp[Sx.vb]));have hk:=of_decide_eq_false hc29;obtain rfl:k=es.length:=by omega
 refine Sx.Dy S 1 Tryz.results32 rfl (v := .agg (aF.cells m).toArray) (u := .i es.length) (z := .i 0) ⟨m,_,_,rfl,⟨.inr ⟨hv,(all_nil hR.2.2 (Nat.le_refl _)).symm⟩,Sx.Ow.dep (Sx.On.step qY Y65),⟨hR.1.1,hR.1.2,fK.ok (Sx.Ow.dep (Sx.On.step qY Y65)) fun n hn=>(hR.2.1 n hn).1⟩,hR.2.1⟩,S.E⟩
end
section
theorem IsTree.afh{n:Nat}{f:Nat→Int}(T:IsTree n f){k i:Nat}(hk:k<n)(h:tC f k=(i:Int)):vI n f k≤vI n f i:=by
 obtain⟨h1,h2,h3⟩:=(T.aaX hk).1 h;obtain⟨a1,a2,a3,a4⟩:=rV (n:=n) (f:=f) (i:=i) (by omega);obtain⟨b1,b2,b3,b4⟩:=rV (n:=n) (f:=f) hk;by_cases hx:vI n f k≤vI n f i
 ·exact hx
 have:=b3 (vI n f i) h2 (by omega);have:=a4 (by omega);omega
theorem IsTree.aa9{n:Nat}{f:Nat→Int}(T:IsTree n f){m k:Nat}(hk:k<n)(hm:f k<m):((BR f m k).length:Int)=f k+1:=by
 rw[T.aaY m k hk hm,List.length_map,List.length_range];have:=T.nn k hk;omega
structure Way (n:Nat) (f:Nat→Int) (L:List Nat) (k:Nat):Prop where
 last:L.getLast?=some k
 head:∀(h:0<L.length),tC f L[0] = -1
 lt:∀x∈L,x<n
 next:∀j (h:j+1<L.length),tC f L[j+1]=(L[j]:Int)∧vI n f L[j+1]≤vI n f L[j]
theorem IsTree.way{n:Nat}{f:Nat→Int}(T:IsTree n f):∀(m k:Nat),k<n→f k<m→Way n f (BR f m k) k
 | 0,k,hk,h=>by have:=T.nn k hk; omega
 | m+1,k,hk,h=>by
  rcases Int.lt_or_le 0 (f k)with h0 | h0
  ·obtain⟨j,h1,h2,h3⟩:=T.VT hk h0
   have e:BR f (m+1) k=BR f m j++[k]:=by
    show(if tC f k<0 then []else BR f m (tC f k).toNat)++[k]=_
    rw[h1,if_neg (by omega),Int.toNat_natCast]
   have ih:=T.way m j (by omega) (by omega)
   have hlen:=T.aa9 (m:=m) (k:=j) (by omega) (by omega)
   have hnn:=T.nn j (by omega)
   rw[e]
   refine⟨List.getLast?_concat ..,fun hp=>?_,fun x hx=>?_,fun i hi=>?_⟩
   ·rw[List.getElem_append_left (by omega)]
    exact ih.head _
   ·rcases List.mem_append.1 hx with hx | hx
    ·exact ih.lt x hx
    ·rw[List.mem_singleton.1 hx]; exact hk
   ·rw[List.length_append,List.length_singleton]at hi
    by_cases hl:i+1<(BR f m j).length
    ·rw[List.getElem_append_left hl,List.getElem_append_left (by omega)]
     exact ih.next i hl
    ·have e2:(BR f m j++[k])[i+1]'(by rw[List.length_append,List.length_singleton]; omega)=k:=by
      rw[List.getElem_append_right (by omega)]; simp
     have e3:(BR f m j++[k])[i]'(by rw[List.length_append,List.length_singleton]; omega)=j:=by
      rw[List.getElem_append_left (by omega)]
      have:=ih.last
      rw[List.getLast?_eq_getElem?,List.getElem?_eq_getElem (by omega)]at this
      have h5:=Option.some.inj this
      have h6:i=(BR f m j).length-1:=by omega
      subst h6
      exact h5
     rw[e2,e3]
     exact⟨h1,T.afh hk h1⟩
  ·have hz:f k=0:=by have:=T.nn k hk; omega
   have hp:=(T.par_none hk).2 hz
   have e:BR f (m+1) k=[k]:=by
    show(if tC f k<0 then []else BR f m (tC f k).toNat)++[k]=_
    rw[hp,if_pos (by decide)]; rfl
   rw[e]
   refine⟨rfl,fun _=>hp,fun x hx=>by rw[List.mem_singleton.1 hx]; exact hk,fun i hi=>?_⟩
   rw[List.length_singleton]at hi; omega
end
end Go.Proofs.YtfmkkemfhjkajaaGreatDoor
section
namespace Go.Sx
open Go.Proofs.YtfmkkemfhjkajaaGreatDoor Go.RowKit Go.Rel
structure Rl (kp:TypeId→Nat→Bool) (base:Nat) (w w':World):Prop where
 bel:Below base w w'
 obj:∀(g:Nat) (cur:Array Value) (e:TypeId),w.heap[g]?=some (.cells cur e (0,0))→∃cur':Array Value,w'.heap[g]?=some (.cells cur' e (0,0))∧cur'.size=cur.size∧∀i:Nat,kp e i=true→cur'[i]?=cur[i]?
section
variable{kp:TypeId→Nat→Bool}{base:Nat}{w w' w2:World}
theorem Rl.refl:Rl kp base w w:=⟨Below.refl _ _,fun g cur e h=>⟨cur,h,rfl,fun _ _=>rfl⟩⟩
theorem Rl.trans(h:Rl kp base w w')(k:Rl kp base w' w2):Rl kp base w w2:=⟨h.bel.trans k.bel,fun g cur e hg=>by
 obtain⟨c1,h1,h2,h3⟩:=h.obj g cur e hg;obtain⟨c2,k1,k2,k3⟩:=k.obj g c1 e h1;exact⟨c2,k1,k2.trans h2,fun i hi=>(k3 i hi).trans (h3 i hi)⟩⟩
theorem Rl.ext(h:Rl kp base w w')(hE:Ext w' w2)(hb:base≤w'.heap.size):Rl kp base w w2:=h.trans ⟨⟨hE.os,hE.tape,hE.output,hE.size,fun k hk=>hE.block k (Nat.lt_of_lt_of_le hk hb)⟩,fun g cur e hg=>⟨cur,(hE.block g (qQ hg).1).trans hg,rfl,fun _ _=>rfl⟩⟩
theorem Rl.set{g off:Nat}{cur:Array Value}{e:TypeId}{cs:List Value}(h:w.heap[g]?=some (.cells cur e (0,0)))(hb:base≤g)(hf:off+cs.length≤cur.size)(hk:∀j,j<cs.length→kp e (off+j)=false):Rl kp base w (w.setCells g off cs):=by
 have hc:Ch g w (w.setCells g off cs):=(Ch.refl g w).setCells cs off;refine⟨hc.below hb (Nat.le_trans hb (Nat.le_of_lt (qQ h).1)),fun g' cur' e' hg'=>?_⟩;by_cases hgg:g'=g
 ·subst hgg;rw[h]at hg';simp only[Option.some.injEq,Obj.cells.injEq,and_true]at hg';obtain⟨rfl,rfl⟩:=hg';refine⟨_,wH g' e (0,0) cs off w cur h hf,by unfold spl; simp; omega,fun i hi=>?_⟩;rw[List.getElem?_toArray];unfold spl;rw[List.getElem?_append,List.getElem?_append];simp only[List.length_append,List.length_take,Array.length_toList,List.getElem?_take,List.getElem?_drop];rw[Nat.min_eq_left (by omega)];by_cases h1:i<off
  ·simp[h1,show i<off+cs.length by omega]
  by_cases h2:i<off+cs.length
  ·exfalso;have:=hk (i-off) (by omega);rw[show off+(i-off)=i by omega,hi]at this;cases this
  simp[h2,show off+cs.length+(i-(off+cs.length))=i by omega]
 exact⟨cur',(hc.block g' (qQ hg').1 fun e=>hgg (Option.some.inj e)).trans hg',rfl,fun _ _=>rfl⟩
theorem Ty.now{k n:Nat}{e:TypeId}{v:Value}(h:Ty e k base v n w)(hR:Rl kp base w w')(hn:0<n):∃g cap,v = .slice (some ⟨g,0,none⟩) n cap∧base≤g∧g<w.heap.size∧∃cur,w'.heap[g]?=some (.cells cur e (0,0))∧n*k≤cur.size:=by
 rcases h with h | ⟨g,cap,cur,h1,h2,h3,h4⟩
 ·omega
 obtain⟨c,h5,h6,-⟩:=hR.obj g cur e h3;exact⟨g,cap,h1,h2,(qQ h3).1,c,h5,by rw[h6]; exact h4⟩
theorem jP.now{α:Type}{k:Nat}{e:TypeId}{f:α→List Value}{v:Value}{L:List α}(h:jP e k f base v L w)(hR:Rl kp base w w'){i:Nat}(hi:i<L.length)(j m:Nat){cs:List Value}(hm:j+cs.length≤k)(hc:((f L[i]).drop j).take cs.length=cs)(hk:∀q,q<cs.length→kp e (i*k+j+q)=true){g cap:Nat}(hv:v = .slice (some ⟨g,0,none⟩) L.length cap):w'.rangeAt g (0+i*k+j) cs:=by
 subst hv;obtain⟨hrow,hty⟩:=h;rcases hty with hty | ⟨g',cap',cur,h1,h2,h3,h4⟩
 ·omega
 simp only[Value.slice.injEq,Option.some.injEq,Addr.mk.injEq,and_true,true_and]at h1;obtain⟨rfl,rfl⟩:=h1;obtain⟨c,h5,h6,h7⟩:=hR.obj g cur e h3;obtain⟨a,cp,hv,hm2,⟨rfl,_⟩ | ⟨b,o,rfl,hb,hl,hcell⟩⟩:=hrow
 ·simp at hi
 simp only[Value.slice.injEq,Option.some.injEq,Addr.mk.injEq,and_true,true_and]at hv;obtain⟨⟨rfl,rfl⟩,rfl⟩:=hv;intro q u hq;have hql:q<cs.length:=by
  by_cases h:q<cs.length
  ·exact h
  rw[List.getElem?_eq_none (by omega)]at hq; cases hq
 have h8:=hcell i hi (j+q) (by omega);rw[(qQ h3).2.1]at h8;have h9:=h7 (i*k+j+q) (hk q hql);rw[(qQ h5).2.1,show 0+i*k+j+q=i*k+j+q by omega,h9,show i*k+j+q=0+i*k+(j+q) by omega,h8];rw[←hc,List.getElem?_take_of_lt hql,List.getElem?_drop]at hq;exact hq
variable{P:Program}{ops:Array Oper}{Q:Exit→Act→World→Prop}{w0:World}{a:Act}{os:List Oper}{n:Nat}{l:List (Nat×Value)}{bl:List (Nat×List Value)}{vs:List iF}
def cut(base:Nat)(w:World):World:={ w with heap:=w.heap.extract 0 base }
theorem Qi(hb:base≤w.heap.size):(cut base w).heap.size=base:=by unfold cut; simp; omega
theorem acR(hb:base≤w.heap.size):Ext (cut base w) w:=⟨rfl,rfl,rfl,by rw[Qi hb]; exact hb,fun k hk=>by
 rw[Qi hb]at hk;unfold cut;rw[Array.getElem?_extract];simp; omega⟩
theorem St.from(S:St w a w n l [] [])(hb:base≤w.heap.size):St (cut base w) a w n l [] []:=⟨S.s,acR hb,fun p hp=>(by cases hp),S.apart,fun m hm=>(by cases hm)⟩
end
end Go.Sx
end
section
namespace Go.Sx
open Go.Proofs.YtfmkkemfhjkajaaGreatDoor Go.RowKit Go.Rel
section
variable{w0 w w1 w2:World}{a a0:Act}{n:Nat}{l l0:List (Nat×Value)}{bl:List (Nat×List Value)}{vs vs0:List iF}
theorem St.re(S:St w0 a w n l bl vs):St w a w n l [] (lV bl vs):=⟨S.s,Ext.rfl',fun p hp=>(by cases hp),List.nodup_nil,fun m hm=>⟨S.Dp m hm,fun p hp=>(by cases hp)⟩⟩
theorem St.back(S0:St w0 a0 w1 n l0 bl vs0)(S:St w2 a w n l [] vs)(h:Ext w1 w2):St w0 a w n l bl []:=
 have hE:Ext w1 w:=Ext.trans' h S.E
 ⟨S.s,(S0.grow hE).E,(S0.grow hE).own,S0.apart,fun m hm=>by cases hm⟩
end
theorem yX{n:Nat}(h:1≤n)(h2:n≤9223372036854775807):Value.i (IntKind.i64.wrap ((n:Int)-1)) = .i (n-1:Nat):=by
 have:IntKind.i64.wrap ((n:Int)-1)=((n-1:Nat):Int):=by rw[IntKind.wrap_i64]; omega
 rw[this]
end Go.Sx
end
section
namespace Go.Proofs.YtfmkkemfhjkajaaGreatDoor
open Go.RowKit
variable{α:Type}{K:Nat}
structure jk where
 a:Option Addr
 l:List aj
def jk.v(t:jk):Value := .slice t.a t.l.length t.l.length
abbrev jk.key (t:jk):List aI:=keys t.l
abbrev MB (K:Nat)(w:World)(v:Value)(l:List jk):Prop:=aN 1 (fun t=>[t.v]) w v l∧∀t∈l,iq K w t.v t.l
theorem MB.below{w w':World}{v:Value}{l:List jk}(h:MB K w v l)(hb:Ext w w'):MB K w' v l:=⟨h.1.below hb,fun t ht=>(h.2 t ht).below hb⟩
structure MC (K:Nat) (w:World) (L:List aj) (i:Nat) (ts:List jk):Prop where
 le:i≤L.length
 key:Dv (keys L)=ts.map jk.key++Dv ((keys L).drop i)
 flat:(ts.map jk.l).flatten=L.take i
 ok:∀t∈ts,iq K w t.v t.l
 len:ts.length≤i
 ne:∀t∈ts,0<t.l.length
theorem acS{β:Type}(p:β→Bool)(X:List β):X.take (X.takeWhile p).length=X.takeWhile p∧X.drop (X.takeWhile p).length=X.dropWhile p:=by
 have h:=List.takeWhile_append_dropWhile (p:=p) (l:=X);generalize X.takeWhile p=A at *;generalize X.dropWhile p=B at *;subst h;exact⟨List.take_left,List.drop_left⟩
theorem Ul{l:List aI}{i:Nat}(hi:i<l.length):Dv (l.drop i)=((l.drop i).take (dR l i-i))::Dv (l.drop (dR l i)):=by
 have hd:l.drop i=l[i]::l.drop (i+1):=(List.getElem_cons_drop hi).symm;have h1:=qj hi;have e:dR l i-i=((l.drop (i+1)).takeWhile fun κ=>decide (l[i].depth<κ.depth)).length+1:=by
  unfold dR; rw[qh hi]; omega
 obtain⟨t1,t2⟩:=acS (fun κ:aI=>decide (l[i].depth<κ.depth)) (l.drop (i+1));rw[show l.drop (dR l i)=(l.drop (i+1)).drop (dR l i-i-1) by rw[List.drop_drop]; congr 1; omega,e,Nat.add_sub_cancel,hd,Ue,List.take_succ_cons,t1,t2]
theorem MF{w:World}{a:Option Addr}{L:List aj}{c i j:Nat}(h:iq K w (.slice a L.length c) L)(hi:i≤j)(hj:j≤L.length):iq K w (.slice (Sx.vY a i j 47) (j-i) (j-i)) ((L.drop i).take (j-i)):=
 ⟨Sx.sG h.1 hi hj (Nat.le_refl j) (Nat.le_trans hj (Sx.l7 h.1)),fun n hn=>h.2 n (List.mem_of_mem_drop (List.mem_of_mem_take hn))⟩
theorem MC.step{w:World}{a:Option Addr}{L:List aj}{c i:Nat}{ts:List jk}(h:iq K w (.slice a L.length c) L)(hT:MC K w L i ts)(hi:i<L.length) :
  MC K w L (dR (keys L) i) (ts++[⟨Sx.vY a i (dR (keys L) i) 47,(L.drop i).take (dR (keys L) i-i)⟩]):=by
 have hi':i<(keys L).length:=by simpa using hi
 obtain⟨h1,h2⟩:=qj hi';have h3:dR (keys L) i≤L.length:=by simpa using h2
 refine⟨h3,?_,?_,fun t ht=>?_,?_,fun t ht=>?_⟩
 ·rw[hT.key,Ul hi',List.map_append,List.map_singleton,List.append_assoc,List.singleton_append];show _=_++((L.drop i).take _).map _::_;rw[List.map_take,List.map_drop]
 ·rw[List.map_append,List.flatten_append,hT.flat,List.map_singleton,List.flatten_singleton];conv=>rhs; rw[show dR (keys L) i=i+(dR (keys L) i-i) by omega,List.take_add]
 ·rcases List.mem_append.1 ht with ht | ht
  ·exact hT.ok t ht
  rw[List.mem_singleton.1 ht];have:=MF h (i:=i) (j:=dR (keys L) i) (by omega) h3;unfold jk.v;rwa [show((L.drop i).take (dR (keys L) i-i)).length=dR (keys L) i-i by simp; omega]
 ·rw[List.length_append,List.length_singleton]; have:=hT.len; omega
 rcases List.mem_append.1 ht with ht | ht
 ·exact hT.ne t ht
 rw[List.mem_singleton.1 ht]; simp; omega
theorem Qj:∀{x y:List (List aI)} {p:Nat},p≤x.length→p≤y.length→x.take p=y.take p→(∀(hx:p<x.length) (hy:p<y.length),x[p]≠y[p])→pK x y=p
 | [],y,p,h1,_,_,_=>by
  obtain rfl:p=0:=by simpa using h1
  simp[pK]
 | x::a,[],p,_,h2,_,_=>by
  obtain rfl:p=0:=by simpa using h2
  simp[pK]
 | x::a,y::b,0,_,_,_,h=>by
  unfold pK
  have:=h (by simp) (by simp)
  simp only[List.getElem_cons_zero]at this
  rw[if_neg this]
 | x::a,y::b,p+1,h1,h2,h3,h4=>by
  rw[List.take_succ_cons,List.take_succ_cons,List.cons.injEq]at h3
  unfold pK
  rw[if_pos h3.1,Qj (by simpa using h1) (by simpa using h2) h3.2 fun hx hy=>by
   have:=h4 (by simpa using hx) (by simpa using hy)
   simpa using this]
theorem rev_at{x:List (List aI)}{p q:Nat}(h:q+p<x.length):∃h2:q<(x.drop p).reverse.length,(x.drop p).reverse[q]=x[x.length-1-q]'(by omega):=by
 refine⟨by simp; omega,?_⟩;rw[List.getElem_reverse,List.getElem_drop];congr 1;simp only[List.length_drop]; omega
abbrev nT (l:List jk):List (List aI):=l.map jk.key
theorem VW{l:List jk}{k:Nat}{x:jk}(h:k<l.length)(hx:l[k]=x):(nT l)[k]'(by simpa using h)=x.key:=by simp[hx]
structure Jh (l m:List jk) (p:Nat):Prop where
 l1:p≤l.length
 l2:p≤m.length
 e:(nT l).take p=(nT m).take p
theorem Jh.zero(l m:List jk):Jh l m 0:=⟨Nat.zero_le _,Nat.zero_le _,rfl⟩
theorem Jh.step{l m:List jk}{p:Nat}(h:Jh l m p)(h1:p<l.length)(h2:p<m.length){x y:jk}(hx:l[p]=x)(hy:m[p]=y)(he:decide (keys x.l=keys y.l)=true):Jh l m (p+1):=by
 refine⟨h1,h2,?_⟩;rw[List.take_succ_eq_append_getElem (by simpa using h1),List.take_succ_eq_append_getElem (by simpa using h2),h.e,VW h1 hx,VW h2 hy];have:=of_decide_eq_true he;rw[show x.key=y.key from this]
theorem Jh.full{l m:List jk}{p:Nat}(h:Jh l m p)(hn:¬p<min l.length m.length):pK (nT l) (nT m)=p:=
 Qj (by simpa using h.l1) (by simpa using h.l2) h.e fun hx hy=>by simp at hx hy; omega
theorem Jh.no{l m:List jk}{p:Nat}(h:Jh l m p)(h1:p<l.length)(h2:p<m.length){x y:jk}(hx:l[p]=x)(hy:m[p]=y)(he:decide (keys x.l=keys y.l)=false):pK (nT l) (nT m)=p:=
 Qj (by simpa using h.l1) (by simpa using h.l2) h.e fun _ _=>by
  rw[VW h1 hx,VW h2 hy]
  exact of_decide_eq_false he
structure Ce (l m:List jk) (p q:Nat):Prop where
 l1:q+p≤l.length
 l2:q+p≤m.length
 e:((nT l).drop p).reverse.take q=((nT m).drop p).reverse.take q
theorem Ce.zero{l m:List jk}{p:Nat}(h:Jh l m p):Ce l m p 0:=⟨by have:=h.l1; omega,by have:=h.l2; omega,rfl⟩
theorem Ce.at{l:List jk}{p q:Nat}{x:jk}(h:q+p<l.length)(hx:l[l.length-1-q]'(by omega)=x):∃h2:q<((nT l).drop p).reverse.length,((nT l).drop p).reverse[q]=x.key:=by
 obtain⟨h2,h3⟩:=rev_at (x:=nT l) (p:=p) (q:=q) (by simpa using h);refine⟨h2,h3.trans ?_⟩;rw[List.getElem_map];simp only[List.length_map,hx]
theorem Ce.step{l m:List jk}{p q:Nat}(h:Ce l m p q)(h1:q+p<l.length)(h2:q+p<m.length){x y:jk}(hx:l[l.length-1-q]'(by omega)=x)(hy:m[m.length-1-q]'(by omega)=y)(he:decide (keys x.l=keys y.l)=true):Ce l m p (q+1):=by
 obtain⟨a1,a2⟩:=Ce.at h1 hx;obtain⟨b1,b2⟩:=Ce.at h2 hy;refine⟨by omega,by omega,?_⟩;rw[List.take_succ_eq_append_getElem a1,List.take_succ_eq_append_getElem b1,h.e,a2,b2,show x.key=y.key from of_decide_eq_true he]
theorem Ce.full{l m:List jk}{p q:Nat}(h:Ce l m p q)(hp:pK (nT l) (nT m)=p)(hn:¬q+p<min l.length m.length):qK (nT l) (nT m)=q:=by
 unfold qK;rw[hp];refine Qj ?_ ?_ h.e fun hx hy=>?_
 ·have:=h.l1; simp; omega
 ·have:=h.l2; simp; omega
 simp at hx hy; omega
theorem Ce.no{l m:List jk}{p q:Nat}(h:Ce l m p q)(hp:pK (nT l) (nT m)=p)(h1:q+p<l.length)(h2:q+p<m.length){x y:jk}(hx:l[l.length-1-q]'(by omega)=x)(hy:m[m.length-1-q]'(by omega)=y)(he:decide (keys x.l=keys y.l)=false):qK (nT l) (nT m)=q:=by
 obtain⟨a1,a2⟩:=Ce.at h1 hx;obtain⟨b1,b2⟩:=Ce.at h2 hy;unfold qK;rw[hp];refine Qj ?_ ?_ h.e fun hx hy=>?_
 ·have:=h.l1; simp; omega
 ·have:=h.l2; simp; omega
 rw[a2,b2]; exact of_decide_eq_false he
end Go.Proofs.YtfmkkemfhjkajaaGreatDoor
end
