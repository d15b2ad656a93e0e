/- A region that draws its order, walked order by order. No program in sight. Package scene: Apply. -/
import Derived.Test.YtfmkkemfhjkajaaGreatDoorHoist2
import Derived.Test.YtfmkkemfhjkajaaGreatDoorScW5
section
namespace Go.Sx
open Go.Proofs.YtfmkkemfhjkajaaGreatDoor Go.RowKit Go.Rel
set_option linter.unusedVariables false
section
variable{P:Program}{os:List Oper}{Q:Exit→Act→World→Prop}{w0:World}{a:Act}{w:World}{n:Nat}{l:List (Nat×Value)}{bl:List (Nat×List Value)}{vs:List Mem1}
/-- The operation i alone. -/
def one(os:List Oper)(i:Nat):List Oper:=(os.drop i).take 1
/-- A call that may write the block b and what it owns from wc on. -/
theorem callE{ops:Array Oper}{b:Nat}{A:List Value}(S:St w0 a w n l ((b,A)::bl) vs){wc:World}{f:FuncId}{args:Array Value}(d:Option Nat){R:Ending→World→Prop}(h0:Ext w0 wc)(hcw:Ext wc w)(hlt:∀p∈bl,p.1<wc.heap.size)(hc:Calls P f args w R)
  (next:∀e w',R e w'→∃v A',e = .returned v∧Ext wc w'∧Bx w' b (List.toArray A')∧∀a',St w0 a' w' n (extD l d v) ((b,A')::bl) []→wpList P ops Q (os.drop 1) a' w')
  (hx:callOf P os l=some (f,args,d):=by kernel_rfl) (hd:dOk n d=true:=by rfl):wpList P ops Q os a w:=by
 cases os with
 | nil=>cases hx
 | cons o os =>
  unfold callOf at hx
  simp only at hx
  split at hx
  ·rename_i f' args' hg hav hev
   simp only[Option.some.injEq,Prod.mk.injEq]at hx
   obtain⟨rfl,rfl,rfl⟩:=hx
   simp only[Bool.or_eq_false_iff]at hav
   have hrun:(execOp a.eval o).run P w = .ok (.enter f' args') w:=gen_ok (Std.act a) (rd_all (holds_lift S.s) o) (p:=[]) rfl hav.1 (by simpa using hav.2) hev
   unfold wpList
   rw[if_pos (by simp[Region.wanted,hg])]
   left
   unfold Oper.wp
   rw[hrun]
   simp only[Oper.upon]
   refine hc.mono fun e w' hR=>?_
   obtain⟨v,A',rfl,hE,hX,hn⟩:=next e w' hR
   refine hn _ ⟨putD S.s hd v,Ext.trans' h0 hE,fun p hp=>?_,S.apart,fun m hm=>(by cases hm)⟩
   rcases List.mem_cons.1 hp with rfl | hp
   ·exact⟨hX,(S.own _ List.mem_cons_self).2⟩
   ·have h1:=S.own p (List.mem_cons_of_mem _ hp)
    have hl:=hlt p hp
    exact⟨⟨Nat.lt_of_lt_of_le hl hE.size,fun i=>(hE.cell (p:=⟨p.1,i,none⟩) hl).trans ((hcw.cell (p:=⟨p.1,i,none⟩) hl).symm.trans (h1.1.2.1 i)),fun i=>(hE.frozen (p:=⟨p.1,i,none⟩) hl).trans ((hcw.frozen (p:=⟨p.1,i,none⟩) hl).symm.trans (h1.1.2.2 i))⟩,h1.2⟩
  ·cases hx
theorem retctt(S:St w0 a w n l bl vs)(k:Nat){fn:Func}{R:Ending→World→Prop}{r s t b:Nat}{ty:TypeId}{A:List Value}{v u z:Value}(hr:fn.results = #[.cell r ty,.tmp s,.tmp t])(hk:bl[k]?=some (b,A))(h:R (.returned (.tuple #[v,u,z])) w)
  (hv:Vp.ev l (.tmp r)=some (.pointer (some ⟨b,0,none⟩)):=by kernel_rfl) (hu:Vp.ev l (.tmp s)=some u:=by rfl) (hz:Vp.ev l (.tmp t)=some z:=by rfl) (hl:ldv P ty A=some v:=by kernel_rfl):bodyPost P fn R .ret a w:=by
 refine⟨S.s.defers,_,?_,h⟩
 have h1:=S.s.ev hv
 have h3:=S.s.ev hu
 have h4:=S.s.ev hz
 have h2:=S.var hk hl
 unfold results
 rw[hr]
 simp only[Act.eval,Array.getD_eq_getD_getElem?]at h1 h3 h4
 simp[h1,h3,h4,asAddr,h2]
end
end Go.Sx
end
section
namespace Go.Proofs.YtfmkkemfhjkajaaGreatDoor
open Go.RowKit
variable{α:Type}{K:Nat}
set_option linter.unusedVariables false
/-- A copy, behind a variable's birth and a store into it. -/
theorem own_after{B b:Nat}{u1 u2 u3:World}{m:SceneD}(h:m.own B u1)(hE:Ext u1 u2)(hC:Ch b u2 u3)(hb:b<B∨u1.heap.size≤b) :
  m.own B u3∧m.s.ownBlock≠some b∧Sx.On (fun i=>B≤i∧i≠b∧m.s.ownBlock≠some i) (fun W=>∀n∈m.ns,n.okT B W) u3:=by
 have hr2:=Sx.ownsRow_ext h.row hE
 have hob:m.s.ownBlock≠some b:=fun e=>by have:=Sx.ownsRow_lt h.row e; omega
 have hn:Sx.On (fun i=>B≤i∧i≠b∧m.s.ownBlock≠some i) (fun W=>∀n∈m.ns,n.okT B W) u3:=fun w' hs hk =>
  h.nodes w' (Nat.le_trans (Nat.le_trans hE.size hC.size) hs) fun k h1 h2=>by
   have hkb:k≠b:=by omega
   have h3:k<u2.heap.size:=Nat.lt_of_lt_of_le h1 hE.size
   exact((hk k (Nat.lt_of_lt_of_le h3 hC.size) ⟨h2.1,hkb,h2.2⟩).trans (hC.block k h3 fun e=>hkb (Option.some.inj e))).trans (hE.block k h1)
 exact⟨⟨Sx.ownsRow_of hr2 fun g hg=>hC.block g (Sx.ownsRow_lt hr2 hg).2 fun e=>hob (hg.trans e),hn.mono fun i hi=>⟨hi.1,hi.2.2⟩⟩,hob,hn⟩
theorem own_base{B B' b:Nat}{u:World}{m:SceneD}(hB:B'≤B)(h:m.own B u∧m.s.ownBlock≠some b∧Sx.On (fun i=>B≤i∧i≠b∧m.s.ownBlock≠some i) (fun W=>∀n∈m.ns,n.okT B W) u) :
  m.own B' u∧m.s.ownBlock≠some b∧Sx.On (fun i=>B'≤i∧i≠b∧m.s.ownBlock≠some i) (fun W=>∀n∈m.ns,n.okT B' W) u:=
 ⟨⟨ownsRow_mono h.1.row hB,(h.1.nodes.mono fun i hi=>⟨Nat.le_trans hB hi.1,hi.2⟩).imp fun _ k n hn=>okT_le (k n hn) hB⟩,h.2.1,(h.2.2.mono fun i hi=>⟨Nat.le_trans hB hi.1,hi.2⟩).imp fun _ k n hn=>okT_le (k n hn) hB⟩
/-- What Apply answers. -/
def appRes(base:Nat)(K:Nat)(s:SceneD)(e:EditD)(code:Int)(t:SceneD)(w:World):Prop:=
 (t.key,code)=applyK s.key e.key∧CpNodes base t.s t.ns w∧SceneOk K w t∧∀n∈t.ns,n.fitL K
theorem appRes_zero{base:Nat}{s:SceneD}{e:EditD}{code:Int}{w:World}(h:applyK s.key e.key=(.zero,code)):appRes base K s e code .zero w:=
 ⟨h.symm,Sx.On.and (Sx.own_rowT (f:=NodeD.cells) (L:=[]) (fun _=>rfl) ⟨rfl,.inl ⟨rfl,rfl⟩⟩ rfl rfl) (fun _ _ _ n hn=>by cases hn),sceneD_zero_ok w,fun n hn=>(by cases hn)⟩
theorem app_err{s:SceneD}{e:EditD}{code:Int}{m t:SceneD}(hd:I64 e.depth)(hv:s.key.valid=true)(hn:e.key.named=true)(hk:keys m.ns=keys s.ns)(hr:edRes m e code t)(hc:code≠0):applyK s.key e.key=(.zero,code):=by
 rw[←applyP_eq hd]
 unfold applyP
 rw[if_neg (by simp[hv]),if_neg (by simp[hn])]
 have h1:=hr.1
 rw[hk]at h1
 rw[show s.key.ns=keys s.ns from rfl]
 cases hp:nodesP (keys s.ns) e.key with
 | error n=>rw[hp]at h1; rw[show code=n from h1]
 | ok l=>rw[hp]at h1; exact absurd h1.1 hc
theorem app_ok{s:SceneD}{e:EditD}{m t:SceneD}(hd:I64 e.depth)(hv:s.key.valid=true)(hn:e.key.named=true)(hk:keys m.ns=keys s.ns)(h3:m.w=s.w∧m.h=s.h∧m.bg=s.bg)(hr:edRes m e 0 t)(hne:∀n,nodesP (keys s.ns) e.key = .error n→n≠0):applyK s.key e.key=if t.key.chk.1=0 then (t.key,0)else (.zero,t.key.chk.1):=by
 rw[←applyP_eq hd]
 unfold applyP
 rw[if_neg (by simp[hv]),if_neg (by simp[hn])]
 have h1:=hr.1
 rw[hk]at h1
 rw[show s.key.ns=keys s.ns from rfl]
 cases hp:nodesP (keys s.ns) e.key with
 | error n=>rw[hp]at h1; exact absurd h1.symm (hne n hp)
 | ok l =>
  rw[hp]at h1
  have ht:s.key.with' e.key l=t.key:=by
   unfold SceneK.with' SceneD.key
   rw[hr.2.1,hr.2.2,h1.2.2,←h1.2.1,h3.1,h3.2.1,h3.2.2]
   rfl
  simp only[ht]
theorem nodesP_err{l:List NodeK}{e:EditK}{n:Int}(h:nodesP l e = .error n):n≠0:=by
 unfold nodesP nodesK at h
 (repeat' split at h)<;>first | (cases h; decide) | cases h
set_option maxRecDepth 100000 in
set_option maxHeartbeats 3200000 in
theorem scApply_any{w:World}{s:SceneD}{e:EditD}(h:SceneOk K w s)(hg:GlobOk w)(he:EditOk K w e)(hlim:∀n∈s.ns,n.lim)(hel:e.node.lim) :
  Calls Tryz.prog 17 #[s.v,e.v] w fun r w'=>∃(t:SceneD) (code:Int),r = .returned (.tuple #[t.v,.int .i64 code])∧appRes w.heap.size K s e code t w'∧Ext w w':=by
 skip
 refine Sx.enter Tryz.func17 Tryz.ntmps17 fun ac S=>Sx.seqP fun _ κ1=>Sx.newp S 2 s.cells fun ac u b2 E3 hb4 S=>Sx.newp S 3 e.cells fun ac u b5 E6 hb7 S=>Sx.newp S 4 [.int .i64 0,.int .i64 0,.int .u8 0,.int .u8 0,.int .u8 0,.int .u8 0,.slice none 0 0] fun ac u b8 E9 hb10 S=>Sx.run S 1 [] [(5,.int .i64 0)] fun ac S=>Sx.done<|κ1 _ _<|wp_seq_k fun _ κ11=>Sx.seqP fun _ κ12=>Sx.run S 1 [.mem 2 0] [(8,s.v)] fun ac S=>Sx.callv S 9 (scValid_any (h.below S.E) (hg.below S.E)) fun ac u E13 S=>Sx.run S 1 [] [(10,.bool (!s.key.valid))] fun ac S=>Sx.done (κ12 _ _ ?_)
 refine Sx.cond S (fun hc14=>?_) (fun hc14=>?_)
 ·refine Sx.seqP fun _ κ15=>Sx.run S 1 [] [(11,.agg #[.int .i64 0,.int .i64 0,.int .u8 0,.int .u8 0,.int .u8 0,.int .u8 0,.slice none 0 0])] fun ac S=>Sx.store S 0 (off:=0) (cs:=[.int .i64 0,.int .i64 0,.int .u8 0,.int .u8 0,.int .u8 0,.int .u8 0,.slice none 0 0]) rfl fun u C16 S=>Sx.run S 1 [] [(5,.int .i64 18)] fun ac S=>Sx.done<|κ15 _ _<|Vp.rt ?_
  refine Sx.retct S 0 Tryz.results17 rfl (v := .agg (SceneD.cells .zero).toArray) (u := .int .i64 18) ⟨.zero,_,rfl,appRes_zero (by unfold applyK; rw[if_pos (by simpa using hc14)]),S.E⟩
 ·refine wp_skip<|κ11 _ _<|wp_seq_k fun _ κ17=>Sx.seqP fun _ κ18=>Sx.run S 1 [.mem 1 0] [(12,e.v)] fun ac S=>Sx.callv S 13 (scOwn_any (he.below S.E)) fun ac u E19 S=>Sx.run S 1 [] [(14,.bool (!e.key.named))] fun ac S=>Sx.done (κ18 _ _ ?_)
  refine Sx.cond S (fun hc20=>?_) (fun hc20=>?_)
  ·refine Sx.seqP fun _ κ21=>Sx.run S 1 [] [(15,.agg #[.int .i64 0,.int .i64 0,.int .u8 0,.int .u8 0,.int .u8 0,.int .u8 0,.slice none 0 0])] fun ac S=>Sx.store S 0 (off:=0) (cs:=[.int .i64 0,.int .i64 0,.int .u8 0,.int .u8 0,.int .u8 0,.int .u8 0,.slice none 0 0]) rfl fun u C22 S=>Sx.run S 1 [] [(5,.int .i64 2)] fun ac S=>Sx.done<|κ21 _ _<|Vp.rt ?_
   refine Sx.retct S 0 Tryz.results17 rfl (v := .agg (SceneD.cells .zero).toArray) (u := .int .i64 2) ⟨.zero,_,rfl,appRes_zero (by unfold applyK; rw[if_neg (by have:=hc14; simp at this; simp[this]),if_pos (by simpa using hc20)]),S.E⟩
  ·refine wp_skip<|κ17 _ _<|Sx.seqP (fun _ κ23=>?_)
   have hE0:=S.E
   have hlb8:=(S.bx 0).1
   have hlb5:=(S.bx 1).1
   have hlb2:=(S.bx 2).1
   obtain⟨wc,hwc⟩:∃z:World,z=u:=⟨_,rfl⟩
   rw[←hwc]at hE0 hlb8 hlb5 hlb2
   have hcw:Ext wc u:=hwc▸Ext.rfl'
   have hv:s.key.valid=true:=by simpa using hc14
   have hno:e.key.named=true:=by simpa using hc20
   have hsl:s.ns.length≤64:=by have:=(SceneK.valid_iff.1 hv).2.1; rwa [show s.key.ns.length=s.ns.length from List.length_map ..]at this
   refine Sx.run S 1 [.mem 2 0] [(16,s.v)] (fun ac S=>?_)
   have hwl:=(hcw).size
   refine Sx.callG S (some 17) (scClone_any (h.below S.E) hlim (by omega)) ?_
   rintro e u ⟨m,rfl,hmo,hms,hmw,hmh,hmb,E24⟩
   refine⟨_,rfl,E24,fun ac S=>?_⟩
   have hwz:=((Ext.trans' hcw E24)).size
   refine Sx.newp S 6 [.int .i64 0,.int .i64 0,.int .u8 0,.int .u8 0,.int .u8 0,.int .u8 0,.slice none 0 0] (fun ac u b25 E26 hb27 S=>?_)
   have hge:wc.heap.size≤b25:=by omega
   refine Sx.store S 0 (off:=0) (cs:=m.cells) rfl (fun u C28 S=>?_)
   have E29:=Sx.ext_ch (Ext.trans' E24 E26) C28 (by have:=E24.size; omega)
   refine Sx.done<|κ23 _ _<|Sx.seqP (fun _ κ30=>?_)
   have hmw:=And.intro hmw (And.intro hmh hmb)
   refine Sx.run S 1 [.mem 2 0] [(18,e.v)] (fun ac S=>?_)
   have hmo2:=(own_base hwl (own_after hmo E26 C28 (.inr (Nat.le_of_eq hb27.symm))))
   have hml:m.ns.length=s.ns.length:=by have:=congrArg List.length hms; simpa using this
   refine Sx.callE S (some 19) hE0 ((Ext.trans' hcw E29)) (fun p hp=>by rcases List.mem_cons.1 hp with rfl | hp; exact hlb8; rcases List.mem_cons.1 hp with rfl | hp; exact hlb5; rcases List.mem_cons.1 hp with rfl | hp; exact hlb2; cases hp) (scEdit_any (K:=K) (w0:=wc) ((Ext.trans' hcw E29)) (S.bx 0) hge hmo2.1 hmo2.2.1 hmo2.2.2 (fun n hn=>⟨fits_all hms (fun n hn=>(h.2.2.2 n hn).2) n hn,lims_strip hms hlim n hn⟩) (he.below hE0) hel (by omega)) ?_
   rintro r u ⟨code,t,rfl,hE2,hX,hcp,hft,hres⟩
   refine⟨_,t.cells,rfl,hE2,hX,fun ac S=>?_⟩
   have htw:I64 t.w∧I64 t.h:=by rw[hres.2.1,hres.2.2,hmw.1,hmw.2.1]; exact⟨h.1,h.2.1⟩
   have hkm:keys m.ns=keys s.ns:=keys_strip hms
   refine Sx.run S 1 [] [(7,.int .i64 code)] fun ac S=>Sx.done<|κ30 _ _<|wp_seq_k fun _ κ31=>Sx.seqP fun _ κ32=>Sx.run S 2 [] [(21,.bool ((code)==0))] fun ac S=>Sx.done (κ32 _ _ ?_)
   refine Sx.cond S (fun hc33=>?_) (fun hc33=>?_)
   ·refine Vp.region<|Sx.run S 1 [.mem 0 0] [(23,t.v)] fun ac S=>Sx.callv S 24 (scCheck_any (K:=K) (s:=t) ⟨htw.1,htw.2,CpNodes.ok (hcp) fun n hn=>(hft n hn).1⟩ (hg.below S.E)) fun ac u E34 S=>Sx.run S 4 [] [(7,.int .i64 t.key.chk.1)] fun ac S=>Sx.done<|κ31 _ _<|wp_seq_k fun _ κ35=>Sx.seqP fun _ κ36=>Sx.run S 2 [] [(28,.bool ((t.key.chk.1) != 0))] fun ac S=>Sx.done (κ36 _ _ ?_)
    refine Sx.cond S (fun hc37=>?_) (fun hc37=>?_)
    ·refine Sx.seqP fun _ κ38=>Sx.run S 2 [] [(29,.agg #[.int .i64 0,.int .i64 0,.int .u8 0,.int .u8 0,.int .u8 0,.int .u8 0,.slice none 0 0]),(30,.int .i64 t.key.chk.1)] fun ac S=>Sx.store S 1 (off:=0) (cs:=[.int .i64 0,.int .i64 0,.int .u8 0,.int .u8 0,.int .u8 0,.int .u8 0,.slice none 0 0]) rfl (fun u C39 S=>?_)
     have Fs40:=Dep.ch (Sx.On.ext hcp E34) C39 hlb8
     refine Sx.run S 1 [] [(5,.int .i64 t.key.chk.1)] fun ac S=>Sx.done<|κ38 _ _<|Vp.rt ?_
     have hc0:code=0:=by simpa using hc33
     have hap:=app_ok he.2.2.2.1 hv hno hkm hmw (hc0▸hres) fun n h=>nodesP_err h
     refine Sx.retct S 1 Tryz.results17 rfl (v := .agg (SceneD.cells .zero).toArray) (u := .int .i64 t.key.chk.1) ⟨.zero,_,rfl,appRes_zero (by rw[hap,if_neg (by simpa using hc37)]),S.E⟩
    ·refine wp_skip<|κ35 _ _<|Sx.seqP fun _ κ41=>Sx.run S 1 [.mem 0 0] [(31,t.v)] fun ac S=>Sx.store S 1 (off:=0) (cs:=t.cells) rfl (fun u C42 S=>?_)
     have Fs43:=Dep.ch (Sx.On.ext hcp E34) C42 hlb8
     refine Sx.run S 1 [] [(5,.int .i64 0)] fun ac S=>Sx.done<|κ41 _ _<|Vp.rt ?_
     have hc0:code=0:=by simpa using hc33
     have hap:=app_ok he.2.2.2.1 hv hno hkm hmw (hc0▸hres) fun n h=>nodesP_err h
     refine Sx.retct S 1 Tryz.results17 rfl (v := .agg (SceneD.cells t).toArray) (u := .int .i64 0) ⟨t,_,rfl,⟨by rw[hap,if_pos (by simpa using hc37)],CpNodes.le (Fs43) hE0.size,⟨htw.1,htw.2,CpNodes.ok (Fs43) fun n hn=>(hft n hn).1⟩,hft⟩,S.E⟩
   ·refine wp_skip<|κ31 _ _<|wp_seq_k fun _ κ44=>Sx.seqP (fun _ κ45=>?_)
    have hne:((code) != 0)=true:=by have:=hc33; simpa using this
    refine Sx.run S 2 [] [(28,.bool ((code) != 0))] fun ac S=>Sx.done (κ45 _ _ ?_)
    refine Sx.cond S (fun hc46=>?_) (fun hc46=>?_)
    ·refine Sx.seqP fun _ κ47=>Sx.run S 2 [] [(29,.agg #[.int .i64 0,.int .i64 0,.int .u8 0,.int .u8 0,.int .u8 0,.int .u8 0,.slice none 0 0]),(30,.int .i64 code)] fun ac S=>Sx.store S 1 (off:=0) (cs:=[.int .i64 0,.int .i64 0,.int .u8 0,.int .u8 0,.int .u8 0,.int .u8 0,.slice none 0 0]) rfl (fun u C48 S=>?_)
     have Fs49:=Dep.ch hcp C48 hlb8
     refine Sx.run S 1 [] [(5,.int .i64 code)] fun ac S=>Sx.done<|κ47 _ _<|Vp.rt ?_
     refine Sx.retct S 1 Tryz.results17 rfl (v := .agg (SceneD.cells .zero).toArray) (u := .int .i64 code) ⟨.zero,_,rfl,appRes_zero (app_err he.2.2.2.1 hv hno hkm hres (by simpa using hne)),S.E⟩
    ·rw[hne]at hc46; cases hc46
end Go.Proofs.YtfmkkemfhjkajaaGreatDoor
end
