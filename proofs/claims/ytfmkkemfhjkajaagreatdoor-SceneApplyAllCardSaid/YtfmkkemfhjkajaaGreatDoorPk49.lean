/- Rows of one's own survive a change in a block of another -/
import Derived.Test.YtfmkkemfhjkajaaGreatDoorPk40
import Derived.Test.YtfmkkemfhjkajaaGreatDoorHoist2
import Derived.Test.YtfmkkemfhjkajaaGreatDoorPk48
import Derived.Test.YtfmkkemfhjkajaaGreatDoorEx37
import Derived.Test.YtfmkkemfhjkajaaGreatDoorPk32
set_option linter.unusedVariables false
namespace Go.Proofs.YtfmkkemfhjkajaaGreatDoor
section
open Go.RowKit
variable{α:Type}{K base:Nat}{w w':World}{e0:TypeId}
def Sp(e0:TypeId)(w w':World):Prop:=w.heap.size≤w'.heap.size∧∀(g:Nat) (cur:Array Value) (e:TypeId),e≠e0→w.heap[g]?=some (.cells cur e (0,0))→w'.heap[g]?=w.heap[g]?
theorem Ci{k n:Nat}{e:TypeId}{v:Value}(he:e≠e0)(h:Sx.Ty e k base v n w)(hs:Sp e0 w w'):Sx.Ty e k base v n w':=by
 rcases h with h | ⟨g,cap,cur,h1,h2,h3,h4⟩
 ·exact .inl h
 exact .inr ⟨g,cap,cur,h1,h2,(hs.2 g cur e he h3).trans h3,h4⟩
theorem Az{k:Nat}{e:TypeId}{f:α→List Value}{v:Value}{L:List α}(he:e≠e0)(h:aN k f w v L)(ht:Sx.Ty e k base v L.length w)(hs:Sp e0 w w'):aN k f w' v L:=by
 obtain⟨a,cap,rfl,hm,hc⟩:=h;refine⟨a,cap,rfl,hm,?_⟩;rcases hc with hc | ⟨b,o,rfl,hlt,hl,hcell⟩
 ·exact .inl hc
 rcases ht with h0 | ⟨g,cap',cur,h1,h2,h3,h4⟩
 ·have hL:=List.eq_nil_of_length_eq_zero h0;subst hL;exact .inr ⟨b,o,rfl,Nat.lt_of_lt_of_le hlt hs.1,hl,fun i hi=>absurd hi (Nat.not_lt_zero _)⟩
 simp only[Value.slice.injEq,Option.some.injEq,Addr.mk.injEq,and_true,true_and]at h1;obtain⟨⟨rfl,rfl⟩,rfl⟩:=h1;exact .inr ⟨b,0,rfl,Nat.lt_of_lt_of_le hlt hs.1,hl,fun i hi j hj=>(World.cell?_of_block (a:=⟨b,0+i*k+j,none⟩) (hs.2 b cur e he h3)).trans (hcell i hi j hj)⟩
theorem V3{k:Nat}{e:TypeId}{f:α→List Value}{v:Value}{L:List α}(he:e≠e0)(h:Sx.jP e k f base v L w)(hs:Sp e0 w w'):Sx.jP e k f base v L w':=⟨Az he h.1 h.2 hs,Ci he h.2 hs⟩
theorem Ik{e:TypeId}{f:α→Value}{v:Value}{L:List α}(he:e≠e0)(h:dW f w v L)(ht:Sx.Ty e 1 base v L.length w)(hs:Sp e0 w w'):dW f w' v L:=Ba (Az he (dS h) ht hs)
def Odd(e0:TypeId):Prop:=194≠e0∧155≠e0∧122≠e0∧99≠e0∧62≠e0∧3≠e0∧43≠e0
instance:Decidable (Odd e0):=by unfold Odd; infer_instance
theorem DC{r:bK}(he:Odd e0)(h:r.oN base w)(hs:Sp e0 w w'):r.oN base w':=⟨⟨Ik he.1 h.1.1 h.2.1 hs,Ik he.1 h.1.2 h.2.2 hs⟩,Ci he.1 h.2.1 hs,Ci he.1 h.2.2 hs⟩
theorem abf{t:aS}(he:Odd e0)(h:t.oN base w)(hs:Sp e0 w w'):t.oN base w':=⟨DC he h.1 hs,DC he h.2.1 hs,DC he h.2.2.1 hs,DC he h.2.2.2.1 hs,DC he h.2.2.2.2.1 hs,DC he h.2.2.2.2.2 hs⟩
theorem abg{p:ak}(he:Odd e0)(h:p.oN base w)(hs:Sp e0 w w'):p.oN base w':=by
 obtain⟨ho,t1,t2,ht⟩:=h;have ht':=abf he ht hs;refine⟨?_,Ci he.2.1 t1 hs,Ci he.2.2.1 t2 hs,ht'⟩;unfold ak.ok at *;simp only[bZ.ok]at *;obtain⟨a1,a2,a3,a4,a5,a6,a7,a8,a9,a10⟩:=ho;exact⟨a1,a2,a3,a4,Az he.2.1 a5 t1 hs,a6,a7,⟨a8.1,a8.2.1,Az he.2.2.1 a8.2.2 t2 hs⟩,a9,ht'.ok⟩
theorem Ko{v:Value}{l:List ak}(he:Odd e0)(h:kH base w v l)(hs:Sp e0 w w'):kH base w' v l:=⟨V3 he.2.2.2.1 h.1 hs,fun p hp=>abg he (h.2 p hp) hs⟩
theorem acX{n:aj}(he:Odd e0)(h:n.oN base w)(hs:Sp e0 w w'):n.oN base w':=by
 obtain⟨ho,t,c,p,f,s,d,m⟩:=h;have t':=abf he t hs;have f':=Ko he f hs;have s':=Ko he s hs;refine⟨?_,t',Ci he.2.2.2.2.1 c hs,Ci he.2.2.2.2.1 p hs,f',s',Ci he.2.2.2.2.2.1 d hs,Ci he.2.2.1 m hs⟩;unfold aj.ok at *;simp only[bZ.ok,aY.ok]at *;obtain⟨h1,h2,h3,h4,h5,h6,h7,h8,h9,h10,⟨s1,s2,s3,s4,s5,s6,s7⟩,h12,⟨i1,i2,i3⟩,QL⟩:=ho;exact⟨h1,h2,h3,t'.ok,⟨Az he.2.2.2.2.1 h5.1 c hs,h5.2⟩,h6,h7,⟨Az he.2.2.2.2.1 h8.1 p hs,h8.2⟩,h9,f'.ok,⟨s1,s2,s3,s4,Ik he.2.2.2.2.2.1 s5 d hs,s6,s7⟩,s'.ok,⟨i1,i2,Az he.2.2.1 i3 m hs⟩,QL⟩
theorem Yo{v:Value}{l:List aj}(he:Odd e0)(h:wM base v l w)(hs:Sp e0 w w'):wM base v l w':=⟨V3 he.2.2.2.2.2.2 h.1 hs,fun n hn=>acX he (h.2 n hn) hs⟩
open Go.Sx Go.Rel in
theorem _root_.Go.Sx.Yp{P:Program}{w:World}{os:List Oper}{i:Nat}{o:Oper}{ρ:Operand→Value}(ho:os[i]?=some o)(hs:Std ρ)(l:List (Nat×Value))(hl:∀q v,l.lookup q=some v→ρ (.tmp q)=v)(A:List Value)(ty:TypeId){Post:Value→World→Prop}(hT:∀b w',w.heap.size≤b→w'.heap[b]?=some (.cells A.toArray ty (0,0))→Bx w' b A.toArray→Ext w w'→Post (.pointer (some ⟨b,0,Option.none⟩)) w')
  (hx:∀r,((os[i]?).bind fun o=>Dc P r [o] l).map (fun q=>(q.1,q.2.1,q.2.2.1,q.2.2.2.isSome))=some (A,ty,WY Option.none r,true):=by intro r; kernel_rfl):Does P o ρ w Post:=by
 have hx:=hx w.heap.size;rw[ho,Option.bind_some]at hx;unfold Dc at hx;simp only at hx;split at hx
 ·rename_i A' ty' k' hg hav hev;split at hx
  ·rename_i v hv;simp only[Option.map_some,Option.some.injEq,Prod.mk.injEq]at hx;obtain⟨rfl,rfl,rfl,hd⟩:=hx;simp only[Bool.or_eq_false_iff]at hav;have hH:Holds ρ (lift l):=fun q x hq=>by
    rw[jV]at hq;cases h2:l.lookup q with
    | none=>simp[h2]at hq
    | some u =>
     simp only[h2,Option.map_some,Option.some.injEq]at hq;subst hq;rw[hl q u h2]; rfl
   have hc:execOp ρ o=execOp (AV (lift l) []) o:=by
    refine execOp_congr o (fun cs b e1=>by rw[e1]at hav; cases hav.1) fun x hx=>?_;have h2:=hav.2;simp only[Bool.not_eq_false',Array.all_eq_true']at h2;obtain⟨z,hz⟩:=Option.isSome_iff_exists.1 (h2 x hx);rw[iI hs (jR hH o x hx) (p:=[]) rfl hz];simp[AV,hz]
   have hv':ev0 P k'=some (.value (WY Option.none w.heap.size)):=by
    unfold jo at hv;split at hv
    ·rename_i h; obtain h2:=Option.some.inj hv; rw[h]; simp only[FP.val.injEq]at h2; rw[h2]
    ·cases hv
    cases hv
   have hrun:(execOp ρ o).run P w = .ok (.value (WY Option.none w.heap.size)) (w.alloc (.cells A'.toArray ty')):=by rw[hc,pz hev,pW hv']
   unfold Does;rw[hrun];exact hT _ _ (Nat.le_refl _) (by unfold World.alloc; exact Array.getElem?_push_size) (FQ _ _ _) (aT _ _)
  simp at hx
 simp at hx
end
section
open Go.RowKit
variable{α:Type}{K:Nat}
theorem agH{base b:Nat}{e0:TypeId}{A:Array Value}{fz:Nat×Nat}{v:Value}{l:List aj}{w:World}(he:Odd e0)(h:fK base v l w)(hb:w.heap[b]?=some (.cells A e0 fz)):Sx.On (fun k=>base≤k∧k≠b) (wM base v l) w:=fun w2 hs hk=>by
 have hbw:b<w.heap.size:=(Array.getElem?_eq_some_iff.1 hb).1;obtain⟨w3,hw3⟩:∃z:World,z={w2 with heap:=w2.heap.setIfInBounds b (.cells A e0 fz)}:=⟨_,rfl⟩;have hg:∀g,w3.heap[g]?=if g=b then some (.cells A e0 fz)else w2.heap[g]?:=fun g=>by
  rw[hw3,Array.getElem?_setIfInBounds];by_cases e:b=g
  ·rw[if_pos e,if_pos e.symm,if_pos (by omega)]
  rw[if_neg e,if_neg (fun k=>e k.symm)]
 have hsz:w3.heap.size=w2.heap.size:=by rw[hw3]; simp
 have h3:wM base v l w3:=h w3 (by omega) fun k hk1 hB=>by
  rw[hg];split
  ·rename_i e; subst e; exact hb.symm
  rename_i e; exact hk k hk1 ⟨hB,e⟩
 refine Yo he h3 ⟨by omega,fun g cur e hne hgc=>?_⟩;rw[hg]at hgc ⊢;split at hgc
 ·cases hgc; exact absurd rfl hne
 rename_i e; rw[if_neg e]
set_option maxRecDepth 100000 in
set_option maxHeartbeats 3200000 in
theorem Il{w:World}{s:aF}{v:Value}{es:List aX}(h:bP K w s)(hes:VU K w v es)(hlim:∀n∈s.ns,n.lim)(hel:∀e∈es,e.node.lim) :
  Calls Tryz.prog 33 #[s.v,v] w fun r w'=>∃(t:aF) (n code:Int),r = .returned (.tuple #[t.v,.i n,.i code])∧((s.key.valid=false∧(t.key,n,code)=(aO.zero,0,18)∨s.key.valid=true∧(t.key,n,code)=dF s.key (es.map aX.key) 0)∧fK w.heap.size t.s t.ns w'∧bP K w' t∧∀n∈t.ns,n.BX K)∧Ext w w':=by
 obtain⟨a,cap,rfl⟩:=hes.1.shape;have hmax:es.length≤9223372036854775807:=hes.1.len;refine akk Tryz.func33 Tryz.ntmps33 fun ac S=>akg fun _ aP=>akh S 2 s.cells fun ac u b2 E3 hb4 S=>akh S 4 [.i 0,.i 0,.int .u8 0,.int .u8 0,.int .u8 0,.int .u8 0,.slice none 0 0] fun ac u b5 E6 hb7 S=>adr S 2 [] [(5,.i 0),(6,.i 0)] fun S=>akf<|aP _ _<|wp_seq_k fun _ dM=>akg fun _ gX=>adr S 1 [.mem 1 0] [(11,s.v)] fun S=>akn S 12 (Ei (h.below S.E)) fun ac u zV S=>adr S 1 [] [(13,.bool (!s.key.valid))] fun S=>akf (gX _ _ ?_);refine aki S (fun fA=>?_) (fun fA=>?_)
 ·refine akg fun _ bV=>adr S 1 [] [(14,.agg #[.i 0,.i 0,.int .u8 0,.int .u8 0,.int .u8 0,.int .u8 0,.slice none 0 0])] fun S=>akl S 0 (off:=0) (cs:=[.i 0,.i 0,.int .u8 0,.int .u8 0,.int .u8 0,.int .u8 0,.slice none 0 0]) rfl fun u C13 S=>adr S 2 [] [(5,.i 0),(6,.i 18)] fun S=>akf<|bV _ _<|Vp.rt ?_;refine Sx.Dy S 0 Tryz.results33 rfl (v := .agg (aF.cells .zero).toArray) (u := .i 0) (z := .i 18) ⟨.zero,_,_,rfl,⟨.inl ⟨by simpa using fA,rfl⟩,Sx.On.and (Sx.dV (f:=aj.cells) (L:=[]) (fun _=>rfl) ⟨rfl,.inl ⟨rfl,rfl⟩⟩ rfl rfl) (fun _ _ _ n hn=>by cases hn),lC _,fun n hn=>by cases hn⟩,S.E⟩
 refine wp_skip<|dM _ _<|akg (fun _ fC=>?_);have R:=Sx.Rw.nil S;have hv:s.key.valid=true:=by simpa using fA
 have hsl:=afk hv;refine adr S 1 [.mem 1 0] [(15,s.v)] (fun S=>?_);have q15:=S.E.size;have q16:=R.lt;refine ako S (some 16) (yx (h.below S.E) hlim (by omega)) ?_;rintro e u ⟨m0,rfl,hmo,hms,hmw,Yi,hmb,Eu⟩;refine⟨_,rfl,Eu,fun ac S=>?_⟩;obtain⟨R,Y18⟩:=R.cO S (Sx.Stp.ext Eu);have G19:=Sx.On.imp (Sx.dY.ow hmo.cp q15 q16) fun _ h=>yV h q15;refine akh S 7 [.i 0,.i 0,.int .u8 0,.int .u8 0,.int .u8 0,.int .u8 0,.slice none 0 0] fun ac u b20 zo Df S=>akl S 0 (off:=0) (cs:=m0.cells) rfl fun u NC S=>akf<|fC _ _<|wp_seq_k fun _ jB=>akg fun _ nZ=>adr S 1 [] [(8,.i 0)] fun S=>akf<|nZ _ _<|wp_block ?_;have hk0:m0.key=s.key:=by unfold aF.key; rw[hmw,Yi,hmb]; exact congrArg _ (wL hms)
 obtain⟨R,Y26⟩:=R.cO S (Sx.Stp.trans (Sx.Stp.uy zo Df) (Sx.Stp.AU NC (by simp[Sx.vb])));refine Vp.loop (ι:=Nat×aF) (fun p a' w'=>p.1≤es.length∧((I64 p.2.w∧I64 p.2.h)∧(∀n∈p.2.ns,n.BX K)∧dF s.key (es.map aX.key) 0=dF p.2.key ((es.map aX.key).drop p.1) p.1)∧Sx.Rw w w' [(b20,p.2.cells),(b5,[.i 0,.i 0,.int .u8 0,.int .u8 0,.int .u8 0,.int .u8 0,.slice none 0 0]),(b2,s.cells)] []∧Sx.Ow w.heap.size (Sx.Ob [(b20,p.2.cells),(b5,[.i 0,.i 0,.int .u8 0,.int .u8 0,.int .u8 0,.int .u8 0,.slice none 0 0]),(b2,s.cells)] []) (fun W=>wM w.heap.size p.2.s p.2.ns W) w'∧Sx.St w a' w' 41 [(0,s.v),(1,.slice a es.length cap),(2,.pointer (some ⟨b2,0,none⟩)),(4,.pointer (some ⟨b5,0,none⟩)),(5,.i 0),(6,.i 0),(7,.pointer (some ⟨b20,0,none⟩)),(8,.i p.1)] [(b20,p.2.cells),(b5,[.i 0,.i 0,.int .u8 0,.int .u8 0,.int .u8 0,.int .u8 0,.slice none 0 0]),(b2,s.cells)] []) (fun p=>es.length-p.1) (0,m0) ⟨Nat.zero_le _,⟨⟨hmw▸h.1,Yi▸h.2.1⟩,fun n hn=>⟨fits_all hms (fun n hn=>(h.2.2.2 n hn).2) n hn,sU hms hlim n hn⟩,by rw[hk0]; rfl⟩,R,(Sx.On.step G19 Y26),S.sn⟩ ?_;rintro⟨k,m⟩ ac u hI;try dsimp only at hI
 obtain⟨hk,hR,R,qY,S⟩:=hI;refine wp_seq_k fun _ jK=>akg fun _ jh=>adr S 4 [] [(20,.bool ((k:Int)<(es.length:Int)))] fun S=>akf (jh _ _ ?_);refine aki S (fun hc29=>?_) (fun hc29=>?_)
 ·refine wp_skip<|jK _ _<|wp_seq_k fun _ jM=>wp_block<|wp_seq_k (fun _ qJ=>?_);have hold:=fun p hp=>(S.own p hp).1.1;have JM:=S.E.size;have q32:=S.E.size;have q33:=R.lt;have hmk:bP K u m:=⟨hR.1.1,hR.1.2,fK.ok (Sx.Ow.dep qY) fun n hn=>(hR.2.1 n hn).1⟩;have Yq:k<es.length:=by have:=of_decide_eq_true hc29; omega
  obtain⟨b35,o36,rfl,e41,hx39,aax,aiI⟩:=Vp.gY hes.1 (fun _=>rfl) (k) Yq;have S:=S.view0 aax aiI;refine Sx.delay 8 6 10 ?_;refine Sx.uo S 10 [(29,fun v w1=>∃t2:aF,v = .tuple #[t2.v,.i (dP m.key e41.key).2]∧t2.key=(dP m.key e41.key).1∧I64 t2.w∧I64 t2.h∧fK u.heap.size t2.s t2.ns w1∧∀n∈t2.ns,n.BX K),(23,fun v w1=>∃t2:aF,v = .tuple #[t2.v,.i (dP m.key e41.key).2]∧t2.key=(dP m.key e41.key).1∧I64 t2.w∧I64 t2.h∧fK u.heap.size t2.s t2.ns w1∧∀n∈t2.ns,n.BX K),(30,fun v w1=>∃t2:aF,v=t2.v∧t2.key=(dP m.key e41.key).1∧I64 t2.w∧I64 t2.h∧fK u.heap.size t2.s t2.ns w1∧∀n∈t2.ns,n.BX K),(31,fun v w1=>v = .i (dP m.key e41.key).2),(9,fun v w1=>∃b,v = .pointer (some ⟨b,0,none⟩)∧u.heap.size≤b∧w1.heap[b]?=some (.cells (List.toArray [.i 0,.i 0,.int .u8 0,.int .u8 0,.int .u8 0,.int .u8 0,.slice none 0 0]) 26 (0,0))∧Bx w1 b (List.toArray [.i 0,.i 0,.int .u8 0,.int .u8 0,.int .u8 0,.int .u8 0,.slice none 0 0]))] (fun r=>[.mem 0 0,.idx k es.length,.mem 3 0,.hand 23 [],.hand 30 [],.hand 31 [],.hand 9 []]) (fun x=>[x 29,x 23,x 30,x 31,x 9]) (fun x=>[(_,_,true,x 29,29)]) [[]] (fun x=>[(9,x 9),(30,x 30),(31,x 31)]) ⟨fun _ _ _ k h=>by obtain⟨t2,e,h1,h2,h3,h4,h5⟩:=h; exact⟨t2,e,h1,h2,h3,Sx.On.ext h4 k,h5⟩,fun _ _ _ k h=>by obtain⟨t2,e,h1,h2,h3,h4,h5⟩:=h; exact⟨t2,e,h1,h2,h3,Sx.On.ext h4 k,h5⟩,fun _ _ _ k h=>by obtain⟨t2,e,h1,h2,h3,h4,h5⟩:=h; exact⟨t2,e,h1,h2,h3,Sx.On.ext h4 k,h5⟩,fun _ _ _ _ h=>h,fun _ w1 w2 k h=>by obtain⟨b,e,h1,h2,h3⟩:=h; exact⟨b,e,h1,(k.block b (Sx.qQ h2).1).trans h2,h3.ext k⟩,trivial⟩ (fun x=>⟨by intro u hC g F; exact(Eh (K:=K) (s:=m) (e:=e41) (hmk.below hC) ((hes.2 _ (hx39▸List.getElem_mem Yq)).below (Ext.trans' S.E hC)) (fun n hn=>(hR.2.1 n hn).2) (hel _ (hx39▸List.getElem_mem Yq))).mono fun e w2 h=>by obtain⟨t2,ajA,rfl,Yr,hb⟩:=h; exact⟨_,rfl,⟨t2,by rw[←Yr.1],by rw[←Yr.1],Yr.2.2.1.1,Yr.2.2.1.2.1,fK.le Yr.2.1 hC.size,Yr.2.2.2⟩,hb⟩,trivial⟩) (fun ac u x QO F S=>?_) (hk:=fun r=>⟨Yq,trivial,trivial,trivial,trivial,trivial⟩) (hl:=[(6,[29]),(7,[23]),(8,[23]),(9,[])]) (hH:=fun x r=>⟨fun o ho ρ u hs hE hρ hV F=>by obtain⟨F29,-⟩:=F; exact Sx.mF ho hs [(29,x 29)] (akF (hρ 29 (by decide) rfl)) (x 29) (Sx.qx ho rfl rfl Ext.rfl' F29),fun o ho ρ u hs hE hρ hV F=>by obtain⟨UQ,-⟩:=F; obtain⟨t2,e,h2⟩:=UQ; exact Sx.mF ho hs [(23,.tuple #[t2.v,.i _])] (akF ((hρ 23 (by decide) rfl).trans e)) (t2.v) (Sx.qx ho rfl rfl Ext.rfl' ⟨t2,rfl,h2⟩),fun o ho ρ u hs hE hρ hV F=>by obtain⟨UQ,-⟩:=F; obtain⟨t2,e,h2⟩:=UQ; exact Sx.mF ho hs [(23,.tuple #[t2.v,.i _])] (akF ((hρ 23 (by decide) rfl).trans e)) (.i _) (Sx.qx ho rfl rfl Ext.rfl' rfl),fun o ho ρ u hs hE hρ hV F=>by exact Sx.Yp ho hs [] (fun _ _ h=>by cases h) [.i 0,.i 0,.int .u8 0,.int .u8 0,.int .u8 0,.int .u8 0,.slice none 0 0] 26 (fun b w' h1 h2 h3 h4=>Sx.qx ho rfl rfl h4 ⟨b,rfl,Nat.le_trans hE.size h1,h2,h3⟩),trivial⟩);obtain⟨F29,UQ,F30,F31,F9,-⟩:=F;clear F29;clear UQ;obtain⟨t,e30,htk,htw,hth,htc,htf⟩:=F30;rw[e30]at S;rw[F31]at S;obtain⟨v9,F9,hb9,Y0,hx9⟩:=F9;rw[F9]at S;have S:=S.pX;have S:=S.adopt (A:=[.i 0,.i 0,.int .u8 0,.int .u8 0,.int .u8 0,.int .u8 0,.slice none 0 0]) hx9 (by omega) (fun p hp=>by have:=hold p hp; omega) (fun m hm=>by cases hm);obtain⟨R,Y43⟩:=R.cO S ((Sx.Stp.ext QO).acD hb9);have hm9:=agH (e0:=26) (by decide) htc Y0;have G44:=Sx.On.imp (Sx.Uj R hm9 q33 q32) fun _ h=>yV h q32;refine akl S 0 (off:=0) (cs:=t.cells) rfl fun u C45 S=>adr S 1 [] [(10,.i ((dP m.key e41.key).2))] fun S=>akf<|qJ _ _<|wp_seq_k fun _ xk=>akg fun _ zi=>adr S 2 [] [(33,.bool (((dP m.key e41.key).2) != 0))] fun S=>akf (zi _ _ ?_);refine aki S (fun afm=>?_) (fun afm=>?_)
  ·refine akg fun _ uV=>adr S 3 [] [(34,.agg #[.i 0,.i 0,.int .u8 0,.int .u8 0,.int .u8 0,.int .u8 0,.slice none 0 0]),(35,.i k),(36,.i ((dP m.key e41.key).2))] fun S=>akl S 2 (off:=0) (cs:=[.i 0,.i 0,.int .u8 0,.int .u8 0,.int .u8 0,.int .u8 0,.slice none 0 0]) rfl fun u C50 S=>adr S 2 [] [(5,.i k),(6,.i ((dP m.key e41.key).2))] fun S=>akf<|uV _ _<|Vp.rt ?_;refine Sx.Dy S 2 Tryz.results33 rfl (v := .agg (aF.cells .zero).toArray) (u := .i k) (z := .i (dP m.key e41.key).2) ⟨.zero,_,_,rfl,⟨.inr ⟨hv,by rw[all_cons hR.2.2 Yq hx39 (show(t.key,(dP m.key e41.key).2)=dP m.key e41.key from Prod.ext htk rfl),if_neg (by simpa using afm)]; rfl⟩,Sx.On.and (Sx.dV (f:=aj.cells) (L:=[]) (fun _=>rfl) ⟨rfl,.inl ⟨rfl,rfl⟩⟩ rfl rfl) (fun _ _ _ n hn=>by cases hn),lC _,fun n hn=>by cases hn⟩,S.E⟩
  refine wp_skip<|xk _ _<|Vp.region<|adr S 1 [.mem 0 0] [(37,t.v)] fun S=>akl S 1 (off:=0) (cs:=t.cells) rfl fun u C51 S=>akf<|jM _ _<|Vp.region<|adr S 3 [.re 22 (.i (IntKind.i64.wrap ((k:Int)+1))) (.i (k+1:Nat))] [(8,.i (k+1:Nat))] (hk:=⟨aks (by omega),trivial⟩) fun S=>akf ?_;have S:=S.oq 1;obtain⟨R,Y52⟩:=R.cO S (Sx.Stp.trans (Sx.Stp.AU C45 (by simp[Sx.vb])) (Sx.Stp.trans (Sx.Stp.AU C51 (by simp[Sx.vb])) (Sx.Stp.uX 1)));show ∃i',_∧_;exact⟨((k+1),t),⟨by omega,⟨⟨htw,hth⟩,htf,by rw[all_cons hR.2.2 Yq hx39 (show(t.key,(dP m.key e41.key).2)=dP m.key e41.key from Prod.ext htk rfl),if_pos (by simpa using afm)]⟩,R,(Sx.On.step G44 Y52),S.sn⟩,by show _-_<_-_; omega⟩
 refine wp_exit<|jB _ _<|akg fun _ CX=>adr S 3 [.mem 0 0] [(38,m.v),(40,.i es.length)] fun S=>akl S 1 (off:=0) (cs:=m.cells) rfl fun u C54 S=>adr S 2 [] [(5,.i es.length),(6,.i 0)] fun S=>akf<|CX _ _<|Vp.rt ?_;obtain⟨R,Y55⟩:=R.cO S (Sx.Stp.AU C54 (by simp[Sx.vb]));have hk:=of_decide_eq_false hc29;obtain rfl:k=es.length:=by omega
 refine Sx.Dy S 1 Tryz.results33 rfl (v := .agg (aF.cells m).toArray) (u := .i es.length) (z := .i 0) ⟨m,_,_,rfl,⟨.inr ⟨hv,(all_nil hR.2.2 (Nat.le_refl _)).symm⟩,Sx.Ow.dep (Sx.On.step qY Y55),⟨hR.1.1,hR.1.2,fK.ok (Sx.Ow.dep (Sx.On.step qY Y55)) fun n hn=>(hR.2.1 n hn).1⟩,hR.2.1⟩,S.E⟩
end
section
open Go.RowKit
variable{α:Type}{K:Nat}
theorem acY{w:World}{s:aF}{n:Int}(h:s.few n=true)(ho:s.ok w):bP 20 w s∧(∀n∈s.ns,n.lim)∧(s.ns.length:Int)≤n:=Qk h ho.1 ho.2.1 ho.2.2
theorem abh{s t u:aF}{κ:List eX}{n m code why:Int}(h:s.key.valid=false∧(t.key,n,code)=(aO.zero,0,18)∨s.key.valid=true∧(t.key,n,code)=dF s.key κ 0)
  (h':s.key.valid=false∧(u.key,m,why)=(aO.zero,0,18)∨s.key.valid=true∧(u.key,m,why)=dF s.key κ 0):u.key=t.key∧m=n∧why=code:=by
 have e:(u.key,m,why)=(t.key,n,code):=by
  rcases h with ⟨h,h1⟩ | ⟨h,h1⟩<;>rcases h' with ⟨h',h2⟩ | ⟨h',h2⟩
  ·rw[h1,h2]
  ·rw[h]at h'; cases h'
  ·rw[h]at h'; cases h'
  rw[h1,h2]
 exact⟨congrArg Prod.fst e,congrArg (fun z=>z.2.1) e,congrArg (fun z=>z.2.2) e⟩
theorem acZ{β:Type}{P:β→Prop}{es:List β}{k:Nat}{x:β}(hR:∀(j:Nat) (hj:j<es.length),j<k→P es[j])(hk:k<es.length)(hx:es[k]=x)(h:P x):∀(j:Nat) (hj:j<es.length),j<k+1→P es[j]:=fun j hj hjk=>by
 by_cases e:j=k
 ·subst e; rw[hx]; exact h
 exact hR j hj (by omega)
set_option maxRecDepth 100000 in
set_option maxHeartbeats 3200000 in
theorem BG{w:World}{s:aF}{v:Value}{es:List aX}(h:s.ok w)(hes:aN 55 aX.cells w v es∧∀e∈es,e.ok w)(hg:jX w) :
  Calls Tryz.prog 8 #[s.v,v] w fun r w'=>r = .returned (.bool true)∧Ext w w':=by
 obtain⟨a,cap,rfl⟩:=hes.1.shape;have hmax:es.length≤9223372036854775807:=hes.1.len;refine akk Tryz.func8 Tryz.ntmps8 fun ac S=>akg fun _ aP=>akh S 2 s.cells fun ac u b2 E3 hb4 S=>adr S 1 [] [(4,.bool false)] fun S=>akf<|aP _ _<|wp_seq_k fun _ dG=>akg fun _ jl=>adr S 1 [.mem 0 0] [(12,s.v)] fun S=>akn S 13 (J8 ⟨(h.2.2.1.below S.E),fun n hn=>(h.2.2.2 n hn).below S.E⟩ 12) fun ac u E7 S=>adr S 6 [] [(19,.bool ((!(s.few 12))||(decide (12<(es.length:Int)))))] fun S=>akf (jl _ _ ?_);refine aki S (fun hc8=>?_) (fun hc8=>?_)
 ·refine akg fun _ gX=>akn S 20 (jQ (hg.below S.E)) fun ac u zV S=>adr S 1 [] [(4,.bool true)] fun S=>akf<|gX _ _<|akj S Tryz.results8 ?_;exact⟨rfl,S.E⟩
 refine wp_skip<|dG _ _<|wp_seq_k fun _ dn=>akg (fun _ bV=>?_);have hc0:s.few 12=true∧¬((12:Int)<(es.length:Int)):=by simpa using hc8
 have hs:=acY hc0.1 h;refine adr S 1 [] [(5,.i 0)] fun S=>akf<|bV _ _<|wp_block ?_;refine Vp.loop (ι:=Nat) (fun p a' w'=>p≤es.length∧(∀(j:Nat) (hj:j<es.length),j<p→es[j].node.kT=true)∧Sx.St w a' w' 65 [(0,s.v),(1,.slice a es.length cap),(2,.pointer (some ⟨b2,0,none⟩)),(4,.bool false),(5,.i p)] [(b2,s.cells)] []) (fun p=>es.length-p) (0) ⟨Nat.zero_le _,fun j hj h=>by omega,S.sn⟩ ?_;rintro k ac u hI;try dsimp only at hI
 obtain⟨hk,hR,S⟩:=hI;refine wp_seq_k fun _ gJ=>akg fun _ fC=>adr S 4 [] [(24,.bool ((k:Int)<(es.length:Int)))] fun S=>akf (fC _ _ ?_);refine aki S (fun oO=>?_) (fun oO=>?_)
 ·refine wp_skip<|gJ _ _<|wp_seq_k fun _ jH=>wp_block<|akg (fun _ gI=>?_);have lt23:k<es.length:=by have:=of_decide_eq_true oO; omega
  obtain⟨b18,o19,rfl,e24,Yd,afa,afb⟩:=Vp.gY hes.1 (fun _=>rfl) (k) lt23;have S:=S.view0 afa afb;refine adr S 5 [.idx k es.length,.mem 1 4] [(31,e24.node.v)] (hk:=⟨lt23,trivial⟩) fun S=>akn S 32 (yw ((hes.2 _ (Yd▸List.getElem_mem lt23)).2.2.2.2.below S.E)) fun ac u UW S=>adr S 1 [] [(33,.bool (!e24.node.kT))] fun S=>akf (gI _ _ ?_);refine aki S (fun hc27=>?_) (fun hc27=>?_)
  ·refine akg fun _ jh=>akn S 34 (jQ (hg.below S.E)) fun ac u Bf S=>adr S 1 [] [(4,.bool true)] fun S=>akf<|jh _ _<|akj S Tryz.results8 ?_;exact⟨rfl,S.E⟩
  refine wp_skip<|jH _ _<|Vp.region<|adr S 3 [.re 26 (.i (IntKind.i64.wrap ((k:Int)+1))) (.i (k+1:Nat))] [(5,.i (k+1:Nat))] (hk:=⟨aks (by omega),trivial⟩) fun S=>akf ?_;show ∃i',_∧_;exact⟨(k+1),⟨by omega,acZ (P:=fun z=>z.node.kT=true) hR lt23 Yd (by simpa using hc27),S.sn⟩,by show _-_<_-_; omega⟩
 refine wp_exit<|dn _ _<|akg (fun _ jM=>?_);have hkn:=of_decide_eq_false oO;have hel:∀e∈es,oZ 20 w e∧e.node.lim:=fun e he=>by
  obtain⟨i,hi,rfl⟩:=List.getElem_of_mem he;have ho:=hes.2 _ (List.getElem_mem hi);have hq:=hR i hi (by omega);exact⟨⟨ho.1,ho.2.1,ho.2.2.1,ho.2.2.2.1,(pU hq ho.2.2.2.2).1⟩,(pU hq ho.2.2.2.2).2⟩
 refine adr S 2 [.mem 0 0] [(36,s.v),(37,.slice a es.length cap)] fun S=>ako S (some 38) (Ii (K:=20) (hs.1.below S.E) (hg.below S.E) ⟨hes.1.below S.E,fun e he=>(hel e he).1.below S.E⟩ hs.2.1 (fun e he=>(hel e he).2)) ?_;rintro e u ⟨t,n,code,rfl,har,AY⟩;refine⟨_,rfl,AY,fun ac S=>?_⟩;refine adr S 4 [] [(39,t.v),(40,.i n),(41,.i code)] fun S=>akh S 6 [.i 0,.i 0,.int .u8 0,.int .u8 0,.int .u8 0,.int .u8 0,.slice none 0 0] fun ac u b32 E33 aj6 S=>akl S 0 (off:=0) (cs:=t.cells) rfl (fun u C35 S=>?_);have QJ:=akp E33 C35 (by omega);refine adr S 2 [] [(7,.i n),(8,.i code)] fun S=>akf<|jM _ _<|akg fun _ oM=>adr S 2 [.mem 1 0] [(43,s.v),(44,.slice a es.length cap)] fun S=>ako S (some 45) (Il (K:=20) (hs.1.below S.E) ⟨hes.1.below S.E,fun e he=>(hel e he).1.below S.E⟩ hs.2.1 (fun e he=>(hel e he).2)) ?_;rintro e u ⟨v,m,why,rfl,hbr,XY⟩;obtain⟨hkk,rfl,rfl⟩:=abh har.1 hbr.1;refine⟨_,rfl,XY,fun ac S=>?_⟩;refine adr S 4 [] [(46,v.v),(47,.i m),(48,.i why)] fun S=>akh S 9 [.i 0,.i 0,.int .u8 0,.int .u8 0,.int .u8 0,.int .u8 0,.slice none 0 0] fun ac u b39 KU aee S=>akl S 0 (off:=0) (cs:=v.cells) rfl (fun u ZJ S=>?_);have E43:=akp (Ext.trans' QJ (Ext.trans' XY KU)) ZJ (by have:=(Ext.trans' QJ XY).size; omega);have YW:=akp KU ZJ (by omega);refine adr S 2 [] [(10,.i m),(11,.i why)] fun S=>akf<|oM _ _<|akg fun _ xB=>adr S 11 [.re 51 (.bool ((why)==why)) (.bool true),.re 55 (.bool ((m)==m)) (.bool true),.mem 1 0,.mem 0 0] [(57,.bool true),(58,t.v),(59,v.v)] (hk:=⟨(congrArg Value.bool (by simp)),(congrArg Value.bool (by simp)),trivial⟩) fun S=>Sx.uH S (some 60) (oD (Ej (K:=20) (s:=t) (t:=v) ((bP.below har.2.2.1 E43)) ((bP.below hbr.2.2.1 YW))) (show Value.bool (t.key=v.key) = .bool true by rw[hkk]; simp)) ?_;rintro e u ⟨rfl,WQ⟩;refine⟨_,rfl,WQ,fun ac S=>?_⟩;refine adr S 2 [] [(62,.bool true)] fun S=>Sx.uH S (some 63) (jQ (hg.below S.E)) ?_;rintro e u ⟨rfl,E47⟩;refine⟨_,rfl,E47,fun ac S=>?_⟩;refine adr S 2 [] [(4,.bool true)] fun S=>akf<|xB _ _<|akj S Tryz.results8 ?_;exact⟨rfl,S.E⟩
end
end Go.Proofs.YtfmkkemfhjkajaaGreatDoor
