/- Package scene: edit. -/
import Derived.Test.YtfmkkemfhjkajaaGreatDoorScW4
namespace Go.Proofs.YtfmkkemfhjkajaaGreatDoor
open Go.RowKit
variable{α:Type}{K:Nat}
set_option linter.unusedVariables false
/-- What an edit does with a scene. -/
def edRes(s:SceneD)(e:EditD)(code:Int)(t:SceneD):Prop:=
 (match nodesP (keys s.ns) e.key with | .error n=>code=n | .ok l=>code=0∧keys t.ns=l∧t.bg=if e.kind=5 then e.color else s.bg)∧t.w=s.w∧t.h=s.h
theorem findI_cases(l:List NodeD)(id:Int):(findI (keys l) id = -1∧findK (keys l) id=none)∨∃i:Nat,findI (keys l) id=(i:Int)∧findK (keys l) id=some i∧i<l.length:=by
 unfold findI
 cases h:findK (keys l) id with
 | none=>exact .inl ⟨rfl,rfl⟩
 | some i =>
  obtain⟨hi,_⟩:=findK_some h
  exact .inr ⟨i,rfl,rfl,by simpa using hi⟩
theorem row_own{w0 w:World}{a:Act}{n:Nat}{l:List (Nat×Value)}{b:Nat}{A:List Value}{vs:List Sx.Mem1}(S:Sx.St w0 a w n l [(b,A)] vs){v:Value}{m:Nat}{xs:List Value}(ho:w.ownsRow w0.heap.size 43 47 v m xs)(hb:v.ownBlock≠some b):Sx.Rw w0 w [(b,A)] [⟨43,47,v,m,xs⟩]:=by
 refine⟨fun r hr=>by obtain rfl:=List.mem_singleton.1 hr; exact ho,fun c hc=>?_,?_⟩
 ·unfold Sx.Ob at hc
  simp only[List.map_cons,List.map_nil,List.filterMap_cons,List.filterMap_nil,List.mem_append,List.mem_singleton]at hc
  rcases hc with rfl | hc
  ·exact(S.bx 0).1
  ·cases hv:v.ownBlock with
   | none=>rw[hv]at hc; cases hc
   | some g=>rw[hv]at hc; obtain rfl:=List.mem_singleton.1 hc; exact(Sx.ownsRow_lt ho hv).2
 ·unfold Sx.Ob
  cases hv:v.ownBlock with
  | none=>simp[hv]
  | some g=>simp[hv]; intro e; rw[e]at hb; exact hb hv
/-- A row is not looked after any more. -/
theorem ow_pop{base:Nat}{bl:List (Nat×List Value)}{r:Sx.Row}{rs:List Sx.Row}{F:World→Prop}{w:World}(h:Sx.Ow base (Sx.Ob bl (r::rs)) F w):Sx.Ow base (Sx.Ob bl rs) F w:=
 h.mono fun k hk=>⟨hk.1,fun hm=>hk.2 (by
  rcases List.mem_append.1 hm with h | h
  ·exact List.mem_append_left _ h
  ·refine List.mem_append_right _ ?_
   rw[List.filterMap_cons]
   cases r.v.ownBlock
   ·exact h
   ·exact List.mem_cons_of_mem _ h)⟩
theorem own_rowB{w:World}{B:Nat}{v:Value}{m:Nat}{L:List NodeD}(ho:w.ownsRow B 43 47 v m (L.flatMap NodeD.cells))(hm:m=L.length):Sx.On (fun i=>v.ownBlock=some i) (Sx.RowT 43 47 NodeD.cells B v L) w:=fun w' hs hb =>
 Sx.On.self (Sx.own_rowT (fun _=>rfl) (Sx.ownsRow_of ho fun g hg=>hb g (Sx.ownsRow_lt ho hg).2 hg) hm rfl)
theorem ow_row{w0 w:World}{bl:List (Nat×List Value)}{v:Value}{m:Nat}{L:List NodeD}{rs:List Sx.Row}(R:Sx.Rw w0 w bl (⟨43,47,v,m,L.flatMap NodeD.cells⟩::rs))(hm:m=L.length):Sx.Ow w0.heap.size (Sx.Ob bl rs) (Sx.RowT 43 47 NodeD.cells w0.heap.size v L) w:=by
 have ho:=R.own _ List.mem_cons_self
 refine(own_rowB ho hm).mono fun i hi=>⟨(Sx.ownsRow_lt ho hi).1,fun hmem=>?_⟩
 have hap:=R.apart
 unfold Sx.Ob at hap hmem
 rw[List.filterMap_cons,show(⟨43,47,v,m,L.flatMap NodeD.cells⟩:Sx.Row).v.ownBlock=some i from hi]at hap
 have hd:=List.nodup_append.1 hap
 rcases List.mem_append.1 hmem with h | h
 ·exact hd.2.2 i h i (by simp) rfl
 ·exact(List.nodup_cons.1 hd.2.1).1 h
theorem row_addr{w0 w:World}{bl:List (Nat×List Value)}{a:Option Addr}{n c:Nat}{xs:List Value}{rs:List Sx.Row}(R:Sx.Rw w0 w bl (⟨43,47,.slice a n c,n,xs⟩::rs))(hn:0<n):∃g,a=some ⟨g,0,none⟩∧∀p∈bl,p.1≠g:=by
 obtain⟨g,rfl⟩:=own_addr (R.own _ List.mem_cons_self) hn
 exact⟨g,rfl,(R.range List.mem_cons_self rfl 0 (cs:=[]) rfl).2.2⟩
theorem slA_some{g i m k:Nat}(h:m≠i):Sx.slA (some ⟨g,0,none⟩) i m k=some ⟨g,0+i*k,none⟩:=by
 unfold Sx.slA; rw[if_neg h]
 show some ((⟨g,0,none⟩:Addr).add (i*k))=_
 congr 1
 unfold Addr.add; split<;>simp_all
def movedD(d:Int)(n:NodeD):NodeD:={n with depth:=IntKind.i64.wrap (n.depth+d)}
theorem i64_wrap(z:Int):I64 (IntKind.i64.wrap z):=by rw[IntKind.wrap_i64]; constructor<;>omega
theorem okT_moved{base:Nat}{w:World}{n:NodeD}{d:Int}(h:n.okT base w):(movedD d n).okT base w:=⟨⟨h.1.1,h.1.2.1,i64_wrap _,h.1.2.2.2⟩,h.2⟩
theorem moved_key(l:List NodeD)(root to:Int):keys (l.map (movedD (IntKind.i64.wrap (to-root))))=(keys l).map fun n=>n.moved root to:=by
 unfold keys; rw[List.map_map,List.map_map]; rfl
theorem keys_put(l m:List NodeD)(i:Nat):keys (l.take i++m++l.drop i)=putK (keys l) i (keys m):=by unfold keys putK; simp
theorem keys_cut(l:List NodeD)(i j:Nat):keys (l.take i++l.drop j)=cutK (keys l) i j:=by unfold keys cutK; simp
theorem keys_seg(l:List NodeD)(i j:Nat):keys ((l.drop i).take (j-i))=segK (keys l) i j:=by unfold keys segK; simp
theorem all_put{P:NodeD→Prop}{l m:List NodeD}(hl:∀n∈l,P n)(hm:∀n∈m,P n)(i j:Nat):∀n∈l.take i++m++l.drop j,P n:=fun n hn=>by
 rcases List.mem_append.1 hn with h | h
 ·rcases List.mem_append.1 h with h | h
  ·exact hl n (List.mem_of_mem_take h)
  ·exact hm n h
 ·exact hl n (List.mem_of_mem_drop h)
theorem all_cut{P:NodeD→Prop}{l:List NodeD}(hl:∀n∈l,P n)(i j:Nat):∀n∈l.take i++l.drop j,P n:=fun n hn=>by
 rcases List.mem_append.1 hn with h | h
 ·exact hl n (List.mem_of_mem_take h)
 ·exact hl n (List.mem_of_mem_drop h)
theorem spl_mid{A B C D:List Value}{o:Nat}(ho:o=A.length)(hl:D.length=B.length):Sx.spl (A++(B++C)) o D=A++(D++C):=by
 subst ho
 unfold Sx.spl
 rw[List.take_left,←List.drop_drop,List.drop_left,hl,List.drop_left,List.append_assoc]
theorem flat_set{L:List NodeD}{i:Nat}(hi:i<L.length)(m:NodeD):Sx.spl (L.flatMap NodeD.cells) (0+i*47) m.cells=(L.set i m).flatMap NodeD.cells:=by
 have h1:L.flatMap NodeD.cells=(L.take i).flatMap NodeD.cells++(L[i].cells++(L.drop (i+1)).flatMap NodeD.cells):=by
  rw[←List.flatMap_cons,←List.flatMap_append,List.getElem_cons_drop,List.take_append_drop]
 rw[h1,spl_mid (D:=m.cells) (by rw[Sx.flatMap_len (f:=NodeD.cells) (k:=47) (fun _=>rfl),List.length_take,Nat.min_eq_left (by omega)]; omega) (show m.cells.length=L[i].cells.length from rfl),List.set_eq_take_append_cons_drop,if_pos hi,List.flatMap_append,List.flatMap_cons]
theorem ow_nodes{w0 w:World}{b:Nat}{A:List Value}{v:Value}{m:Nat}{xs:List Value}{F:World→Prop}(h:Sx.On (fun i=>w0.heap.size≤i∧i≠b∧v.ownBlock≠some i) F w):Sx.Ow w0.heap.size (Sx.Ob [(b,A)] [⟨43,47,v,m,xs⟩]) F w:=
 h.mono fun i hi=>⟨hi.1,fun hm=>by
  unfold Sx.Ob at hm
  simp only[List.map_cons,List.map_nil,List.filterMap_cons,List.filterMap_nil,List.mem_append,List.mem_singleton]at hm
  rcases hm with rfl | hm
  ·exact hi.2.1 rfl
  ·cases hv:v.ownBlock with
   | none=>rw[hv]at hm; cases hm
   | some g=>rw[hv]at hm; obtain rfl:=List.mem_singleton.1 hm; exact hi.2.2 hv⟩
theorem ow_push{base:Nat}{bl:List (Nat×List Value)}{F:World→Prop}{w:World}(h:Sx.Ow base (Sx.Ob bl []) F w):Sx.Ow base (Sx.Ob bl [⟨43,47,.slice none 0 0,0,[]⟩]) F w:=h
theorem one_row{w:World}{b:Nat}{m:NodeD}(hx:Bx w b m.cells.toArray):IsRowN 47 NodeD.cells w (.slice (some ⟨b,0,none⟩) 1 1) [m]:=
 ⟨_,1,rfl,by decide,.inr ⟨b,0,rfl,hx.1,Nat.le_refl _,fun i hi j hj=>by
  obtain rfl:i=0:=by simpa using hi
  rw[show 0+0*47+j=j by omega,hx.2.1,List.getElem?_toArray]; rfl⟩⟩
theorem seg_snoc{l:List NodeD}{i e k:Nat}{d:Int}{y:NodeD}(h:i+k<l.length)(hy:l[i+k]=y)(hk:k<e-i):(((l.drop i).take (e-i)).take k |>.map (movedD d)).flatMap NodeD.cells++(movedD d y).cells=(((l.drop i).take (e-i)).take (k+1) |>.map (movedD d)).flatMap NodeD.cells:=by
 have h1:k<((l.drop i).take (e-i)).length:=by simp; omega
 rw[List.take_succ_eq_append_getElem h1,List.map_append,List.flatMap_append]
 congr 1
 simp[hy]
theorem all_moved{base:Nat}{w:World}{l:List NodeD}{d:Int}(h:∀n∈l,n.okT base w)(i m:Nat):∀n∈((l.drop i).take m).map (movedD d),n.okT base w:=fun n hn=>by
 obtain⟨x,hx,rfl⟩:=List.mem_map.1 hn
 exact okT_moved (h x (List.mem_of_mem_drop (List.mem_of_mem_take hx)))
theorem fit_moved{l:List NodeD}{d:Int}(h:∀n∈l,n.fitL K)(i m:Nat):∀n∈((l.drop i).take m).map (movedD d),n.fitL K:=fun n hn=>by
 obtain⟨x,hx,rfl⟩:=List.mem_map.1 hn
 exact h x (List.mem_of_mem_drop (List.mem_of_mem_take hx))
theorem set_s(s:SceneD)(i:Nat)(m:NodeD):SceneD.s ⟨s.w,s.h,s.bg,s.nsa,s.nsc,s.ns.set i m⟩=s.s:=by unfold SceneD.s; simp
theorem set_cells(s:SceneD)(i:Nat)(m:NodeD):SceneD.cells ⟨s.w,s.h,s.bg,s.nsa,s.nsc,s.ns.set i m⟩=s.cells:=by unfold SceneD.cells; rw[set_s]
theorem all_set{P:NodeD→Prop}{l:List NodeD}{m:NodeD}(h:∀n∈l,P n)(hm:P m)(i:Nat):∀n∈l.set i m,P n:=fun n hn=>by
 rcases List.mem_or_eq_of_mem_set hn with h1 | rfl
 ·exact h n h1
 ·exact hm
set_option maxRecDepth 100000 in
set_option maxHeartbeats 2400000 in
theorem scEdit_any{w0 w:World}{b:Nat}{s:SceneD}{e:EditD}(hE:Ext w0 w)(hx:Bx w b s.cells.toArray)(hb:w0.heap.size≤b)(ho:s.own w0.heap.size w)(hob:s.s.ownBlock≠some b)(hnb:Sx.On (fun i=>w0.heap.size≤i∧i≠b∧s.s.ownBlock≠some i) (fun W=>∀n∈s.ns,n.okT w0.heap.size W) w)(hf:∀n∈s.ns,n.fitL K)(he:EditOk K w0 e)(hel:e.node.lim)(hn:s.ns.length≤1000) :
  Calls Tryz.prog 50 #[.pointer (some ⟨b,0,none⟩),e.v] w fun r w'=>∃(code:Int) (t:SceneD),r = .returned (.int .i64 code)∧Ext w0 w'∧Bx w' b t.cells.toArray∧CpNodes w0.heap.size t.s t.ns w'∧(∀n∈t.ns,n.fitL K)∧edRes s e code t:=by
 skip
 refine Sx.enterB Tryz.func50 Tryz.ntmps50 hE hx hb (fun ac S=>?_)
 obtain⟨a,cap,es⟩:∃a c,s.s = .slice a s.ns.length c:=⟨_,_,rfl⟩
 have hor:=ho.row
 rw[es]at hor hob hnb
 have R:=row_own S hor hob
 have hnd:=ow_nodes (A:=s.cells) (m:=s.ns.length) (xs:=s.ns.flatMap NodeD.cells) hnb
 refine Sx.seqP fun _ κ1=>Sx.newp S 3 e.cells fun ac u b2 E3 hb4 S=>Sx.run S 1 [] [(4,.int .i64 0)] fun ac S=>Sx.done<|κ1 _ _<|wp_seq_k (fun _ κ5=>?_)
 obtain⟨R,Y6⟩:=R.sync2 S (Sx.Stp.boxv E3 hb4)
 have hrow:=(Sx.On.self (Sx.own_rowN (f:=NodeD.cells) (L:=s.ns) (fun _=>rfl) (R.own _ List.mem_cons_self) rfl rfl))
 refine Sx.draw S 7 [.mem 1 6,.re 15 s.s (.slice a s.ns.length cap),.mem 0 1] [(_,_,true,.int .i64 (findI (keys s.ns) e.id))] [(18,.int .i64 (findI (keys s.ns) e.id))] ⟨fun u hC g=>scFind_any (id:=e.id) (hrow.below hC),trivial⟩ (hk:=⟨es,trivial⟩) fun ac u E7 S=>Sx.run S 1 [] [(5,.int .i64 (findI (keys s.ns) e.id))] fun ac S=>Sx.done<|κ5 _ _<|wp_seq_k fun _ κ8=>Sx.seqP fun _ κ9=>Sx.run S 2 [.mem 0 0] [(20,.int .i64 e.kind)] fun ac S=>Sx.done<|κ9 _ _<|wp_block<|Sx.seqP fun _ κ10=>Sx.run S 2 [] [(21,.bool ((e.kind)==1))] fun ac S=>Sx.done (κ10 _ _ ?_)
 refine Sx.cond S (fun hc11=>?_) (fun hc11=>?_)
 ·refine wp_seq_k fun _ κ12=>wp_seq_k fun _ κ13=>Sx.draw S 13 [.mem 0 2,.mem 0 2,.mem 1 6,.re 32 s.s (.slice a s.ns.length cap)] [] [(35,.bool ((decide (e.index<0))||(decide (((s.ns.length:Nat):Int)<e.index))))] trivial (hk:=⟨es,trivial⟩) fun ac u E14 S=>Sx.done (κ13 _ _ ?_)
  refine Sx.cond S (fun hc15=>?_) (fun hc15=>?_)
  ·refine Sx.seqP fun _ κ16=>Sx.run S 1 [] [(4,.int .i64 6)] fun ac S=>Sx.done<|κ16 _ _<|Vp.rt ?_
   obtain⟨R,Y17⟩:=R.sync2 S (Sx.Stp.trans (Sx.Stp.ext E7) (Sx.Stp.ext E14))
   refine Sx.ret1 S Tryz.results50 ?_
   exact⟨6,s,rfl,S.E,S.bx 1,(es▸Sx.On.and (Sx.own_rowT (fun _=>rfl) (R.own _ List.mem_cons_self) rfl rfl) (Sx.Ow.dep (Sx.On.step hnd (Sx.Stp.trans Y6 Y17)))),hf,⟨by rw[show nodesP (keys s.ns) e.key = .error 6 by unfold nodesP nodesK; rw[if_neg (show ¬e.key.kind=3 from fun h=>by have:=(show(e.key.kind=1)from by simpa[EditD.key]using hc11); omega),if_pos (show(e.key.kind=1)from by simpa[EditD.key]using hc11),if_pos (by have:=hc15; simp only[Bool.or_eq_true,decide_eq_true_eq]at this; rw[List.length_map]; exact this)]],rfl,rfl⟩⟩
  ·refine wp_skip<|κ12 _ _ ?_
   have hix:0≤e.index∧e.index≤(s.ns.length:Int):=by have:=hc15; simp only[Bool.or_eq_false_iff,decide_eq_false_iff_not]at this; omega
   obtain⟨ax,hat⟩:=nat_of hix.1
   obtain⟨R,Y18⟩:=R.sync2 S (Sx.Stp.trans (Sx.Stp.ext E7) (Sx.Stp.ext E14))
   have hrw:=ow_row R rfl
   have hnd2:=ow_pop (Sx.On.step hnd (Sx.Stp.trans Y6 Y18))
   have R:=Sx.Rw.pop R
   have hold:=fun p hp=>(S.own p hp).1.1
   have q19:=S.E.size
   have q20:=R.lt
   have hrow:=(Sx.On.self hrw).1
   refine Sx.hoistG S [0] 11 [] [(36,.pointer (some ⟨b,0,none⟩))] (fun ac S=>?_)
   refine Sx.drawXA S 11 [(45,fun v w1=>∃m:NodeD,v=m.v∧m.cp u.heap.size w1∧m.strip=e.node.strip),(46,fun v w1=>∃m b,v = .slice (some ⟨b,0,none⟩) 1 1∧u.heap.size≤b∧Bx w1 b (NodeD.cells m).toArray∧Sx.On (fun i=>u.heap.size≤i∧i≠b) (fun W=>m.okT u.heap.size W) w1∧m.strip=e.node.strip)] (fun r=>[.mem 1 6,.re 40 s.s (.slice a s.ns.length cap),.mem 0 2,.mem 0 4,.hand 46 []]) (fun x=>[x 45,x 46]) (fun x=>[(_,_,true,x 45,45)]) [[]] (fun x=>[(36,.pointer (some ⟨b,0,none⟩)),(40,.slice a s.ns.length cap),(42,.int .i64 e.index),(46,x 46)]) ⟨fun _ _ _ k h=>by obtain⟨m,e,h,q⟩:=h; exact⟨m,e,h.ext k,q⟩,fun v w w' k h=>by obtain⟨m,b,e,h1,h2,h3,q⟩:=h; exact⟨m,b,e,h1,h2.ext k,h3.ext k,q⟩,trivial⟩ (fun x=>⟨by intro u hC g F; exact(clone_any (he.2.2.2.2.1.below (Ext.trans' S.E hC)) hel).mono fun e w2 h=>by obtain⟨m,rfl,hx,hs,hb⟩:=h; exact⟨_,rfl,⟨m,rfl,node_le hx hC.size,hs⟩,hb⟩,trivial⟩) (fun ac u x E21 F S=>?_) (hk:=fun r=>⟨es,trivial,trivial⟩) (hl:=[(10,[45])]) (hH:=fun x r=>⟨fun o ho ρ u hs hE hρ hV F=>by obtain⟨F45,-⟩:=F; obtain⟨m,e,h,q⟩:=F45; exact Sx.does_new ho hs [(45,m.v)] (Sx.look1 ((hρ 45 (by decide) rfl).trans e)) m.cells (some 1) (fun v w' hn hE2=>Sx.hp_of ho rfl rfl hE2 (by obtain⟨b,e2,h2,h3⟩:=hn; exact⟨m,b,e2,Nat.le_trans hE.size h2,h3,Sx.On.fresh h hE2 h2,q⟩)),trivial⟩)
   obtain⟨F45,F46,-⟩:=F
   clear F45
   obtain⟨m,b22,eb22,hb24,X23,hm,hms⟩:=F46
   rw[eb22]at S
   have S:=S.noviews
   have S:=S.adopt (A:=m.cells) X23 (Nat.le_trans q19 hb24) (fun p hp=>by have:=hold p hp; omega) (fun m hm=>by cases hm)
   obtain⟨R,Y25⟩:=R.sync2 S ((Sx.Stp.ext E21).addv hb24)
   have G26:=Sx.On.imp (Sx.ow_new R hm q20 q19) fun _ h=>okT_le h q19
   have hrow:=(Sx.On.self (Sx.On.step hrw Y25)).1
   have hone:=one_row (S.bx 0)
   have q27:=S.E.size
   have q28:=R.lt
   have q29:=S.E.size
   have q30:=R.lt
   refine Sx.callG S (some 47) (scInsert_any hrow hone (i:=ax) (by omega) (by simp) (by simp; omega) hat) ?_
   rintro r u ⟨vi,rfl,hoi,E31⟩
   obtain⟨a9,c9,rfl⟩:=Sx.own_shape hoi
   refine⟨_,rfl,E31,fun ac S=>?_⟩
   have hnw:=Sx.own_rowT (f:=NodeD.cells) (fun _=>rfl) hoi rfl rfl
   obtain⟨R,Y32⟩:=R.sync2 S (Sx.Stp.ext E31)
   have G33:=Sx.On.imp (Sx.Dep.ow hnw q29 q30) fun _ h=>h.le q29
   refine Sx.run S 2 [] [(49,.pointer (some ⟨b,6,none⟩))] fun ac S=>Sx.store1 S 2 (off:=6) (v := .slice a9 ((s.ns.take ax++[m]++s.ns.drop ax).length) c9) rfl fun u C34 S=>Sx.done<|κ8 _ _<|Sx.seqP fun _ κ35=>Sx.run S 1 [] [(4,.int .i64 0)] fun ac S=>Sx.done<|κ35 _ _<|Vp.rt ?_
   obtain⟨R,Y36⟩:=R.sync2 S (Sx.Stp.chm C34 (by simp[Sx.vb]))
   refine Sx.ret1 S Tryz.results50 ?_
   exact⟨0,⟨s.w,s.h,s.bg,a9,c9,s.ns.take ax++[m]++s.ns.drop ax⟩,rfl,S.E,S.bx 2,Sx.On.and (Sx.Ow.dep (Sx.On.step G33 Y36)) (Sx.On.imp (Sx.On.and (Sx.Ow.dep (Sx.On.step hnd2 (Sx.Stp.trans Y25 (Sx.Stp.trans Y32 Y36)))) (Sx.Ow.dep (Sx.On.step G26 (Sx.Stp.trans Y32 Y36)))) fun _ h=>all_put h.1 (fun n hn=>by rw[List.mem_singleton.1 hn]; exact h.2) ax ax),all_put hf (fun n hn=>by rw[List.mem_singleton.1 hn]; exact fitL_strip ⟨he.2.2.2.2.2,hel⟩ hms) ax ax,⟨by rw[show nodesP (keys s.ns) e.key = .ok (putK (keys s.ns) ax [e.node.key]) by unfold nodesP nodesK; rw[if_neg (show ¬e.key.kind=3 from fun h=>by have:=(show(e.key.kind=1)from by simpa[EditD.key]using hc11); omega),if_pos (show(e.key.kind=1)from by simpa[EditD.key]using hc11),if_neg (by rw[List.length_map,show e.key.index=e.index from rfl]; omega),show e.key.index.toNat=ax from by rw[show e.key.index=e.index from rfl,hat]; rfl]; rfl]; exact⟨rfl,by rw[keys_put]; simp[keys,key_strip' hms],by rw[if_neg (fun h=>by have:=(show(e.key.kind=1)from by simpa[EditD.key]using hc11); simp only[EditD.key]at this; omega)]⟩,rfl,rfl⟩⟩
 ·refine wp_seq_k fun _ κ37=>Sx.seqP fun _ κ38=>Sx.run S 2 [] [(50,.bool ((e.kind)==2))] fun ac S=>Sx.done (κ38 _ _ ?_)
  refine Sx.cond S (fun hc39=>?_) (fun hc39=>?_)
  ·refine wp_skip<|κ37 _ _ ?_
   refine Sx.cond S (fun hc40=>?_) (fun hc40=>?_)
   ·refine wp_seq_k fun _ κ41=>Sx.seqP fun _ κ42=>Sx.run S 2 [] [(54,.bool (decide ((findI (keys s.ns) e.id)<0)))] fun ac S=>Sx.done (κ42 _ _ ?_)
    refine Sx.cond S (fun hc43=>?_) (fun hc43=>?_)
    ·refine Sx.seqP fun _ κ44=>Sx.run S 1 [] [(4,.int .i64 8)] fun ac S=>Sx.done<|κ44 _ _<|Vp.rt ?_
     have hfk:=((findI_cases s.ns e.id).resolve_right (fun⟨i,h,_⟩=>by have:=of_decide_eq_true hc43; omega)).2
     obtain⟨R,Y45⟩:=R.sync2 S (Sx.Stp.ext E7)
     refine Sx.ret1 S Tryz.results50 ?_
     exact⟨8,s,rfl,S.E,S.bx 1,(es▸Sx.On.and (Sx.own_rowT (fun _=>rfl) (R.own _ List.mem_cons_self) rfl rfl) (Sx.Ow.dep (Sx.On.step hnd (Sx.Stp.trans Y6 Y45)))),hf,⟨by rw[show nodesP (keys s.ns) e.key = .error 8 by unfold nodesP nodesK; rw[if_neg (show ¬e.key.kind=3 from fun h=>by have:=(show(e.key.kind=2)from by simpa[EditD.key]using hc39); omega),if_neg (show ¬(e.key.kind=1)from by simpa[EditD.key]using hc11),if_pos (show(e.key.kind=2)from by simpa[EditD.key]using hc39),show findK (keys s.ns) e.key.id=none from hfk]],rfl,rfl⟩⟩
    ·refine wp_skip<|κ41 _ _<|wp_seq_k (fun _ κ46=>?_)
     obtain⟨i,hfi,hfk,hi⟩:=(findI_cases s.ns e.id).resolve_left (fun h=>by have:=of_decide_eq_false hc43; omega)
     have hek:=endK_le (l:=keys s.ns) (i:=i) (by simpa using hi)
     rw[List.length_map]at hek
     obtain⟨R,Y47⟩:=R.sync2 S (Sx.Stp.ext E7)
     obtain⟨gb,rfl,hgn⟩:=row_addr R (by omega)
     have hrw:=ow_row R rfl
     have hnd2:=ow_pop (Sx.On.step hnd (Sx.Stp.trans Y6 Y47))
     have R:=Sx.Rw.pop R
     have hrow:=(Sx.On.self hrw).1
     have q48:=S.E.size
     have q49:=R.lt
     obtain⟨e9,he9⟩:∃z,z=endK (keys s.ns) i:=⟨_,rfl⟩
     rw[←he9]at hek
     have hro:=hrw
     refine Sx.drawX S 16 [(67,fun v w1=>∃v1,v = .tuple #[v1,.slice (some ⟨gb,0+i*47,none⟩) (e9-i) (e9-i)]∧Sx.On (fun j=>(w0.heap.size≤j∧j∉Sx.Ob [(b2,e.cells),(b,s.cells)] [])∨u.heap.size≤j) (Sx.RowT 43 47 NodeD.cells w0.heap.size v1 (s.ns.take i++s.ns.drop e9)) w1),(55,fun v w1=>∃v1,v = .tuple #[v1,.slice (some ⟨gb,0+i*47,none⟩) (e9-i) (e9-i)]∧Sx.On (fun j=>(w0.heap.size≤j∧j∉Sx.Ob [(b2,e.cells),(b,s.cells)] [])∨u.heap.size≤j) (Sx.RowT 43 47 NodeD.cells w0.heap.size v1 (s.ns.take i++s.ns.drop e9)) w1),(68,fun v w1=>Sx.On (fun j=>(w0.heap.size≤j∧j∉Sx.Ob [(b2,e.cells),(b,s.cells)] [])∨u.heap.size≤j) (Sx.RowT 43 47 NodeD.cells w0.heap.size v (s.ns.take i++s.ns.drop e9)) w1),(69,fun v w1=>v = .slice (some ⟨gb,0+i*47,none⟩) (e9-i) (e9-i)),(6,fun v w1=>Sx.On (fun j=>(w0.heap.size≤j∧j∉Sx.Ob [(b2,e.cells),(b,s.cells)] [])∨u.heap.size≤j) (Sx.RowT 43 47 NodeD.cells w0.heap.size v (s.ns.take i++s.ns.drop e9)) w1)] (fun r=>[.mem 1 6,.re 59 s.s (.slice (some ⟨gb,0,none⟩) s.ns.length cap),.mem 1 6,.re 64 s.s (.slice (some ⟨gb,0,none⟩) s.ns.length cap),.hand 55 [],.hand 68 [],.hand 69 [],.hand 6 []]) (fun x=>[.int .i64 ((e9:Nat):Int),x 67,x 55,x 68,x 69,x 6]) (fun x=>[(_,_,true,.int .i64 ((e9:Nat):Int),66),(_,_,true,x 67,67)]) [[],[]] (fun x=>[(6,x 6),(69,x 69)]) ⟨fun _ _ _ k h=>by obtain⟨v1,e,h⟩:=h; exact⟨v1,e,h.ext k⟩,fun _ _ _ k h=>by obtain⟨v1,e,h⟩:=h; exact⟨v1,e,h.ext k⟩,fun _ _ _ k h=>h.ext k,fun _ _ _ _ h=>h,fun _ _ _ k h=>h.ext k,trivial⟩ (fun x=>⟨by intro u hC g F; exact(scEnd_any (hrow.below hC) hi hfi he9).mono fun e w2 h=>⟨_,h.1,rfl,h.2⟩,by intro u hC g F; exact(scSplit_any (hrow.below hC) (f:=i) (t:=e9) (by omega) (by omega) (by omega) hfi).mono fun e w2 h=>by obtain⟨v1,rfl,hx,hb⟩:=h; exact⟨_,rfl,⟨v1,by rw[slA_some (show e9≠i by omega)],(hx w0.heap.size _ (Ext.trans' S.E hC).size (Sx.On.ext hro hC)).mono fun j hj=>hj.imp_right (Nat.le_trans hC.size)⟩,hb⟩,trivial⟩) (fun ac u x E50 F S=>?_) (hk:=fun r=>⟨es,es,trivial,trivial,trivial,trivial,trivial⟩) (hl:=[(12,[67]),(13,[55]),(14,[55]),(15,[68])]) (hH:=fun x r=>⟨fun o ho ρ u hs hE hρ hV F=>by obtain⟨F67,-⟩:=F; obtain⟨v1,e1,h1⟩:=F67; exact Sx.does_ev ho hs [(67,.tuple #[v1,.slice (some ⟨gb,0+i*47,none⟩) (e9-i) (e9-i)])] (Sx.look1 ((hρ 67 (by decide) rfl).trans e1)) (.tuple #[v1,.slice (some ⟨gb,0+i*47,none⟩) (e9-i) (e9-i)]) (Sx.hp_of ho rfl rfl Ext.rfl' ⟨v1,rfl,h1⟩),fun o ho ρ u hs hE hρ hV F=>by obtain⟨F55,-⟩:=F; obtain⟨v1,e1,h1⟩:=F55; exact Sx.does_ev ho hs [(55,.tuple #[v1,.slice (some ⟨gb,0+i*47,none⟩) (e9-i) (e9-i)])] (Sx.look1 ((hρ 55 (by decide) rfl).trans e1)) (v1) (Sx.hp_of ho rfl rfl Ext.rfl' h1),fun o ho ρ u hs hE hρ hV F=>by obtain⟨F55,-⟩:=F; obtain⟨v1,e1,h1⟩:=F55; exact Sx.does_ev ho hs [(55,.tuple #[v1,.slice (some ⟨gb,0+i*47,none⟩) (e9-i) (e9-i)])] (Sx.look1 ((hρ 55 (by decide) rfl).trans e1)) (.slice (some ⟨gb,0+i*47,none⟩) (e9-i) (e9-i)) (Sx.hp_of ho rfl rfl Ext.rfl' rfl),fun o ho ρ u hs hE hρ hV F=>by obtain⟨F68,-⟩:=F; exact Sx.does_ev ho hs [(68,x 68)] (Sx.look1 (hρ 68 (by decide) rfl)) (x 68) (Sx.hp_of ho rfl rfl Ext.rfl' F68),trivial⟩)
     obtain⟨F67,F55,F68,F69,F6,-⟩:=F
     clear F67
     clear F55
     clear F68
     rw[F69]at S
     obtain⟨R,Y51⟩:=R.sync2 S (Sx.Stp.ext E50)
     have hcut:Sx.Ow w0.heap.size (Sx.Ob [(b2,e.cells),(b,s.cells)] []) (Sx.RowT 43 47 NodeD.cells w0.heap.size (x 6) (s.ns.take i++s.ns.drop e9)) u:=F6.mono fun j hj=>hj.elim id fun h=>⟨Nat.le_trans q48 h,fun hm=>by have:=q49 j hm; omega⟩
     obtain⟨a7,c7,e7⟩:=(Sx.On.self hcut).1.shape
     rw[e7]at S hcut
     refine Sx.run S 1 [] [(7,.slice (some ⟨gb,0+i*47,none⟩) (e9-i) (e9-i))] fun ac S=>Sx.done<|κ46 _ _<|wp_seq_k fun _ κ52=>Sx.seqP fun _ κ53=>Sx.run S 3 [.mem 0 0] [(72,.bool ((e.kind)==2))] fun ac S=>Sx.done (κ53 _ _ ?_)
     refine Sx.cond S (fun hc54=>?_) (fun hc54=>?_)
     ·refine Sx.seqP fun _ κ55=>Sx.run S 4 [] [(74,.slice a7 ((s.ns.take i++s.ns.drop e9).length) c7),(76,.pointer (some ⟨b,6,none⟩))] fun ac S=>Sx.store1 S 1 (off:=6) (v := .slice a7 ((s.ns.take i++s.ns.drop e9).length) c7) rfl fun u C56 S=>Sx.done<|κ55 _ _<|Sx.seqP fun _ κ57=>Sx.run S 1 [] [(4,.int .i64 0)] fun ac S=>Sx.done<|κ57 _ _<|Vp.rt ?_
      obtain⟨R,Y58⟩:=R.sync2 S (Sx.Stp.chm C56 (by simp[Sx.vb]))
      refine Sx.ret1 S Tryz.results50 ?_
      exact⟨0,⟨s.w,s.h,s.bg,a7,c7,s.ns.take i++s.ns.drop e9⟩,rfl,S.E,S.bx 1,Sx.On.and (Sx.Ow.dep (Sx.On.step hcut Y58)) (Sx.On.imp (Sx.Ow.dep (Sx.On.step hnd2 (Sx.Stp.trans Y51 Y58))) fun _ h=>all_cut h i e9),all_cut hf i e9,⟨by rw[show nodesP (keys s.ns) e.key = .ok (cutK (keys s.ns) i e9) by unfold nodesP nodesK; rw[if_neg (show ¬e.key.kind=3 from fun h=>by have:=(show(e.key.kind=2)from by simpa[EditD.key]using hc39); omega),if_neg (show ¬(e.key.kind=1)from by simpa[EditD.key]using hc11),if_pos (show(e.key.kind=2)from by simpa[EditD.key]using hc39),show findK (keys s.ns) e.key.id=some i from hfk]; rw[he9]]; exact⟨rfl,keys_cut ..,by rw[if_neg (fun h=>by have:=(show(e.key.kind=2)from by simpa[EditD.key]using hc39); simp only[EditD.key]at this; omega)]⟩,rfl,rfl⟩⟩
     ·rw[hc39]at hc54; cases hc54
   ·rw[hc39]at hc40; cases hc40
  ·refine Vp.region<|Sx.run S 2 [] [(50,.bool ((e.kind)==3))] fun ac S=>Sx.done (κ37 _ _ ?_)
   refine Sx.cond S (fun hc59=>?_) (fun hc59=>?_)
   ·refine wp_seq_k fun _ κ60=>Sx.seqP fun _ κ61=>Sx.run S 2 [] [(54,.bool (decide ((findI (keys s.ns) e.id)<0)))] fun ac S=>Sx.done (κ61 _ _ ?_)
    refine Sx.cond S (fun hc62=>?_) (fun hc62=>?_)
    ·refine Sx.seqP fun _ κ63=>Sx.run S 1 [] [(4,.int .i64 8)] fun ac S=>Sx.done<|κ63 _ _<|Vp.rt ?_
     have hfk:=((findI_cases s.ns e.id).resolve_right (fun⟨i,h,_⟩=>by have:=of_decide_eq_true hc62; omega)).2
     obtain⟨R,Y64⟩:=R.sync2 S (Sx.Stp.ext E7)
     refine Sx.ret1 S Tryz.results50 ?_
     exact⟨8,s,rfl,S.E,S.bx 1,(es▸Sx.On.and (Sx.own_rowT (fun _=>rfl) (R.own _ List.mem_cons_self) rfl rfl) (Sx.Ow.dep (Sx.On.step hnd (Sx.Stp.trans Y6 Y64)))),hf,⟨by rw[show nodesP (keys s.ns) e.key = .error 8 by unfold nodesP; rw[if_pos (show(e.key.kind=3)from by simpa[EditD.key]using hc59),show findK (keys s.ns) e.key.id=none from hfk]],rfl,rfl⟩⟩
    ·refine wp_skip<|κ60 _ _<|wp_seq_k (fun _ κ65=>?_)
     obtain⟨i,hfi,hfk,hi⟩:=(findI_cases s.ns e.id).resolve_left (fun h=>by have:=of_decide_eq_false hc62; omega)
     have hek:=endK_le (l:=keys s.ns) (i:=i) (by simpa using hi)
     rw[List.length_map]at hek
     obtain⟨R,Y66⟩:=R.sync2 S (Sx.Stp.ext E7)
     obtain⟨gb,rfl,hgn⟩:=row_addr R (by omega)
     have hrw:=ow_row R rfl
     have hnd2:=ow_pop (Sx.On.step hnd (Sx.Stp.trans Y6 Y66))
     have R:=Sx.Rw.pop R
     have hrow:=(Sx.On.self hrw).1
     have q67:=S.E.size
     have q68:=R.lt
     obtain⟨e9,he9⟩:∃z,z=endK (keys s.ns) i:=⟨_,rfl⟩
     rw[←he9]at hek
     have hro:=hrw
     refine Sx.drawX S 16 [(67,fun v w1=>∃v1,v = .tuple #[v1,.slice (some ⟨gb,0+i*47,none⟩) (e9-i) (e9-i)]∧Sx.On (fun j=>(w0.heap.size≤j∧j∉Sx.Ob [(b2,e.cells),(b,s.cells)] [])∨u.heap.size≤j) (Sx.RowT 43 47 NodeD.cells w0.heap.size v1 (s.ns.take i++s.ns.drop e9)) w1),(55,fun v w1=>∃v1,v = .tuple #[v1,.slice (some ⟨gb,0+i*47,none⟩) (e9-i) (e9-i)]∧Sx.On (fun j=>(w0.heap.size≤j∧j∉Sx.Ob [(b2,e.cells),(b,s.cells)] [])∨u.heap.size≤j) (Sx.RowT 43 47 NodeD.cells w0.heap.size v1 (s.ns.take i++s.ns.drop e9)) w1),(68,fun v w1=>Sx.On (fun j=>(w0.heap.size≤j∧j∉Sx.Ob [(b2,e.cells),(b,s.cells)] [])∨u.heap.size≤j) (Sx.RowT 43 47 NodeD.cells w0.heap.size v (s.ns.take i++s.ns.drop e9)) w1),(69,fun v w1=>v = .slice (some ⟨gb,0+i*47,none⟩) (e9-i) (e9-i)),(6,fun v w1=>Sx.On (fun j=>(w0.heap.size≤j∧j∉Sx.Ob [(b2,e.cells),(b,s.cells)] [])∨u.heap.size≤j) (Sx.RowT 43 47 NodeD.cells w0.heap.size v (s.ns.take i++s.ns.drop e9)) w1)] (fun r=>[.mem 1 6,.re 59 s.s (.slice (some ⟨gb,0,none⟩) s.ns.length cap),.mem 1 6,.re 64 s.s (.slice (some ⟨gb,0,none⟩) s.ns.length cap),.hand 55 [],.hand 68 [],.hand 69 [],.hand 6 []]) (fun x=>[.int .i64 ((e9:Nat):Int),x 67,x 55,x 68,x 69,x 6]) (fun x=>[(_,_,true,.int .i64 ((e9:Nat):Int),66),(_,_,true,x 67,67)]) [[],[]] (fun x=>[(6,x 6),(69,x 69)]) ⟨fun _ _ _ k h=>by obtain⟨v1,e,h⟩:=h; exact⟨v1,e,h.ext k⟩,fun _ _ _ k h=>by obtain⟨v1,e,h⟩:=h; exact⟨v1,e,h.ext k⟩,fun _ _ _ k h=>h.ext k,fun _ _ _ _ h=>h,fun _ _ _ k h=>h.ext k,trivial⟩ (fun x=>⟨by intro u hC g F; exact(scEnd_any (hrow.below hC) hi hfi he9).mono fun e w2 h=>⟨_,h.1,rfl,h.2⟩,by intro u hC g F; exact(scSplit_any (hrow.below hC) (f:=i) (t:=e9) (by omega) (by omega) (by omega) hfi).mono fun e w2 h=>by obtain⟨v1,rfl,hx,hb⟩:=h; exact⟨_,rfl,⟨v1,by rw[slA_some (show e9≠i by omega)],(hx w0.heap.size _ (Ext.trans' S.E hC).size (Sx.On.ext hro hC)).mono fun j hj=>hj.imp_right (Nat.le_trans hC.size)⟩,hb⟩,trivial⟩) (fun ac u x E69 F S=>?_) (hk:=fun r=>⟨es,es,trivial,trivial,trivial,trivial,trivial⟩) (hl:=[(12,[67]),(13,[55]),(14,[55]),(15,[68])]) (hH:=fun x r=>⟨fun o ho ρ u hs hE hρ hV F=>by obtain⟨F67,-⟩:=F; obtain⟨v1,e1,h1⟩:=F67; exact Sx.does_ev ho hs [(67,.tuple #[v1,.slice (some ⟨gb,0+i*47,none⟩) (e9-i) (e9-i)])] (Sx.look1 ((hρ 67 (by decide) rfl).trans e1)) (.tuple #[v1,.slice (some ⟨gb,0+i*47,none⟩) (e9-i) (e9-i)]) (Sx.hp_of ho rfl rfl Ext.rfl' ⟨v1,rfl,h1⟩),fun o ho ρ u hs hE hρ hV F=>by obtain⟨F55,-⟩:=F; obtain⟨v1,e1,h1⟩:=F55; exact Sx.does_ev ho hs [(55,.tuple #[v1,.slice (some ⟨gb,0+i*47,none⟩) (e9-i) (e9-i)])] (Sx.look1 ((hρ 55 (by decide) rfl).trans e1)) (v1) (Sx.hp_of ho rfl rfl Ext.rfl' h1),fun o ho ρ u hs hE hρ hV F=>by obtain⟨F55,-⟩:=F; obtain⟨v1,e1,h1⟩:=F55; exact Sx.does_ev ho hs [(55,.tuple #[v1,.slice (some ⟨gb,0+i*47,none⟩) (e9-i) (e9-i)])] (Sx.look1 ((hρ 55 (by decide) rfl).trans e1)) (.slice (some ⟨gb,0+i*47,none⟩) (e9-i) (e9-i)) (Sx.hp_of ho rfl rfl Ext.rfl' rfl),fun o ho ρ u hs hE hρ hV F=>by obtain⟨F68,-⟩:=F; exact Sx.does_ev ho hs [(68,x 68)] (Sx.look1 (hρ 68 (by decide) rfl)) (x 68) (Sx.hp_of ho rfl rfl Ext.rfl' F68),trivial⟩)
     obtain⟨F67,F55,F68,F69,F6,-⟩:=F
     clear F67
     clear F55
     clear F68
     rw[F69]at S
     obtain⟨R,Y70⟩:=R.sync2 S (Sx.Stp.ext E69)
     have hcut:Sx.Ow w0.heap.size (Sx.Ob [(b2,e.cells),(b,s.cells)] []) (Sx.RowT 43 47 NodeD.cells w0.heap.size (x 6) (s.ns.take i++s.ns.drop e9)) u:=F6.mono fun j hj=>hj.elim id fun h=>⟨Nat.le_trans q67 h,fun hm=>by have:=q68 j hm; omega⟩
     obtain⟨a7,c7,e7⟩:=(Sx.On.self hcut).1.shape
     rw[e7]at S hcut
     refine Sx.run S 1 [] [(7,.slice (some ⟨gb,0+i*47,none⟩) (e9-i) (e9-i))] fun ac S=>Sx.done<|κ65 _ _<|wp_seq_k fun _ κ71=>Sx.seqP fun _ κ72=>Sx.run S 3 [.mem 0 0] [(72,.bool ((e.kind)==2))] fun ac S=>Sx.done (κ72 _ _ ?_)
     refine Sx.cond S (fun hc73=>?_) (fun hc73=>?_)
     ·rw[hc39]at hc73; cases hc73
     ·refine wp_skip<|κ71 _ _<|wp_seq_k fun _ κ74=>Sx.seqP fun _ κ75=>Sx.run S 10 [.mem 0 2,.mem 0 2] [(86,.bool ((decide (e.index<0))||(decide ((((s.ns.take i++s.ns.drop e9).length:Nat):Int)<e.index))))] fun ac S=>Sx.done (κ75 _ _ ?_)
      refine Sx.cond S (fun hc76=>?_) (fun hc76=>?_)
      ·refine Sx.seqP fun _ κ77=>Sx.run S 1 [] [(4,.int .i64 6)] fun ac S=>Sx.done<|κ77 _ _<|Vp.rt ?_
       refine Sx.ret1 S Tryz.results50 ?_
       exact⟨6,s,rfl,S.E,S.bx 1,(es▸Sx.On.and (Sx.Ow.dep (Sx.On.step hrw Y70)) (Sx.Ow.dep (Sx.On.step hnd2 Y70))),hf,⟨by rw[show nodesP (keys s.ns) e.key = .error 6 by unfold nodesP; rw[if_pos (show(e.key.kind=3)from by simpa[EditD.key]using hc59),show findK (keys s.ns) e.key.id=some i from hfk]; simp only; rw[←he9,if_pos (by have:=hc76; simp only[Bool.or_eq_true,decide_eq_true_eq]at this; rw[←keys_cut,List.length_map]; exact this)]],rfl,rfl⟩⟩
      ·refine wp_skip<|κ74 _ _<|Sx.seqP fun _ κ78=>Sx.run S 1 [] [(8,.slice none 0 0)] fun ac S=>Sx.done<|κ78 _ _<|wp_seq_k (fun _ κ79=>?_)
       have hrow:=(Sx.On.self (Sx.On.step hrw Y70)).1
       obtain⟨b80,o80,c80,hv80,hb80,hr80⟩:=Vp.rowN_range2 hrow (fun _=>rfl) (i) hi
       simp only[Value.slice.injEq,Option.some.injEq,Addr.mk.injEq,true_and,and_true]at hv80
       obtain⟨⟨rfl,rfl⟩,rfl⟩:=hv80
       obtain⟨x0,hx0⟩:∃z,s.ns[i]'hi=z:=⟨_,rfl⟩
       rw[hx0,show 0+(i)*47=0+i*47+0*47 by omega]at hr80
       have S:=S.view hb80 hr80 hgn
       refine Sx.draw S 7 [.mem 0 3,.idx 0 (e9-i),.mem 2 2] [] [(93,.int .i64 (IntKind.i64.wrap (e.depth-x0.depth)))] trivial (hk:=⟨(by omega),trivial⟩) fun ac u E81 S=>Sx.run S 1 [] [(9,.int .i64 (IntKind.i64.wrap (e.depth-x0.depth)))] fun ac S=>Sx.done<|κ79 _ _<|wp_seq_k fun _ κ82=>Sx.seqP fun _ κ83=>Sx.run S 3 [] [(94,.slice (some ⟨gb,0+i*47,none⟩) (e9-i) (e9-i)),(95,.int .i64 (((e9-i):Nat):Int)),(96,.int .i64 0)] fun ac S=>Sx.done<|κ83 _ _<|wp_block ?_
       obtain⟨R,Y84⟩:=R.sync2 S (Sx.Stp.ext E81)
       have R:=nrow_nil R
       refine Vp.loop (ι:=Nat×Value) (fun p a' w'=>p.1≤(e9-i)∧(True)∧Sx.Rw w0 w' [(b2,e.cells),(b,s.cells)] [⟨43,47,p.2,p.1,((((s.ns.drop i).take (e9-i)).take p.1).map (movedD (IntKind.i64.wrap (e.depth-x0.depth)))).flatMap NodeD.cells⟩]∧Sx.Ow w0.heap.size (Sx.Ob [(b2,e.cells),(b,s.cells)] [⟨43,47,p.2,p.1,((((s.ns.drop i).take (e9-i)).take p.1).map (movedD (IntKind.i64.wrap (e.depth-x0.depth)))).flatMap NodeD.cells⟩]) (fun W=>∀n∈s.ns,n.okT w0.heap.size W) w'∧Sx.Ow w0.heap.size (Sx.Ob [(b2,e.cells),(b,s.cells)] [⟨43,47,p.2,p.1,((((s.ns.drop i).take (e9-i)).take p.1).map (movedD (IntKind.i64.wrap (e.depth-x0.depth)))).flatMap NodeD.cells⟩]) (fun W=>Sx.RowT 43 47 NodeD.cells w0.heap.size (.slice (some ⟨gb,0,none⟩) s.ns.length cap) s.ns W) w'∧Sx.Ow w0.heap.size (Sx.Ob [(b2,e.cells),(b,s.cells)] [⟨43,47,p.2,p.1,((((s.ns.drop i).take (e9-i)).take p.1).map (movedD (IntKind.i64.wrap (e.depth-x0.depth)))).flatMap NodeD.cells⟩]) (fun W=>Sx.RowT 43 47 NodeD.cells w0.heap.size (.slice a7 (s.ns.take i++s.ns.drop e9).length c7) (s.ns.take i++s.ns.drop e9) W) w'∧Sx.St w0 a' w' 158 [(0,.pointer (some ⟨b,0,none⟩)),(1,e.v),(3,.pointer (some ⟨b2,0,none⟩)),(4,.int .i64 0),(5,.int .i64 (findI (keys s.ns) e.id)),(6,.slice a7 ((s.ns.take i++s.ns.drop e9).length) c7),(7,.slice (some ⟨gb,0+i*47,none⟩) (e9-i) (e9-i)),(8,p.2),(9,.int .i64 (IntKind.i64.wrap (e.depth-x0.depth))),(20,.int .i64 e.kind),(94,.slice (some ⟨gb,0+i*47,none⟩) (e9-i) (e9-i)),(95,.int .i64 (((e9-i):Nat):Int)),(96,.int .i64 ((p.1:Nat):Int))] [(b2,e.cells),(b,s.cells)] []) (fun p=>(e9-i)-p.1) (0,.slice none 0 0) ⟨Nat.zero_le _,trivial,R,(ow_push (Sx.On.step hnd2 (Sx.Stp.trans Y70 Y84))),(ow_push (Sx.On.step hrw (Sx.Stp.trans Y70 Y84))),(ow_push (Sx.On.step hcut Y84)),(S.sub [(0,.pointer (some ⟨b,0,none⟩)),(1,e.v),(3,.pointer (some ⟨b2,0,none⟩)),(4,.int .i64 0),(5,.int .i64 (findI (keys s.ns) e.id)),(6,.slice a7 ((s.ns.take i++s.ns.drop e9).length) c7),(7,.slice (some ⟨gb,0+i*47,none⟩) (e9-i) (e9-i)),(8,.slice none 0 0),(9,.int .i64 (IntKind.i64.wrap (e.depth-x0.depth))),(20,.int .i64 e.kind),(94,.slice (some ⟨gb,0+i*47,none⟩) (e9-i) (e9-i)),(95,.int .i64 (((e9-i):Nat):Int)),(96,.int .i64 ((0:Nat):Int))]).noviews⟩ ?_
       rintro⟨k,v⟩ ac u hI
       try dsimp only at hI
       obtain⟨hk,hR,R,hF_nd,hF_row,hF_cut,S⟩:=hI
       refine Sx.seqP fun _ κ85=>Sx.run S 1 [] [(97,.bool (decide (((k:Nat):Int)<(((e9-i):Nat):Int))))] fun ac S=>Sx.done<|κ85 _ _<|wp_seq_k (fun _ κ86=>?_)
       refine Sx.cond S (fun hc87=>?_) (fun hc87=>?_)
       ·refine wp_skip<|κ86 _ _<|wp_seq_k fun _ κ88=>wp_block<|Sx.seqP (fun _ κ89=>?_)
        have hk3:k<e9-i:=by have:=of_decide_eq_true hc87; omega
        have hk2:i+k<s.ns.length:=by omega
        have hrow:=(Sx.On.self hF_row).1
        obtain⟨b90,o90,c90,hv90,hb90,hr90⟩:=Vp.rowN_range2 hrow (fun _=>rfl) (i+k) hk2
        simp only[Value.slice.injEq,Option.some.injEq,Addr.mk.injEq,true_and,and_true]at hv90
        obtain⟨⟨rfl,rfl⟩,rfl⟩:=hv90
        obtain⟨y,hy⟩:∃z,s.ns[i+k]'hk2=z:=⟨_,rfl⟩
        rw[hy,show 0+(i+k)*47=0+i*47+k*47 by omega]at hr90
        have S:=S.view hb90 hr90 hgn
        refine Sx.run S 2 [.idx k (e9-i),.mem 2 0] [(99,y.v)] (hk:=⟨(by have:=of_decide_eq_true hc87; omega),trivial⟩) fun ac S=>Sx.newp S 11 (Sx.L [.int .i64 0,.int .i64 0,.int .i64 0]++Sx.za++Sx.L [.slice none 0 0,.int .i64 0,.int .u8 0,.int .i64 0,.bool false,.bool false,.slice none 0 0,.int .i64 0,.slice none 0 0,.int .i64 0,.int .i64 0,.int .i64 0,.int .i64 0,.slice none 0 0,.int .i64 0,.slice none 0 0,.int .i64 0,.int .i64 0,.slice none 0 0,.int .i64 0]) fun ac u b91 E92 hb93 S=>Sx.store S 0 (off:=0) (cs:=y.cells) rfl fun u C94 S=>Sx.done<|κ89 _ _<|Sx.seqP fun _ κ95=>Sx.run S 5 [.mem 0 2] [(103,.int .i64 (IntKind.i64.wrap (y.depth+(IntKind.i64.wrap (e.depth-x0.depth))))),(104,.pointer (some ⟨b91,2,none⟩))] fun ac S=>Sx.store1 S 0 (off:=2) (v := .int .i64 (IntKind.i64.wrap (y.depth+(IntKind.i64.wrap (e.depth-x0.depth))))) rfl fun u C96 S=>Sx.done<|κ95 _ _<|Vp.region<|Sx.run S 2 [.mem 0 0] [(105,v),(106,.agg (Sx.L [.int .i64 y.id,.int .i64 y.kind,.int .i64 (IntKind.i64.wrap (y.depth+(IntKind.i64.wrap (e.depth-x0.depth))))]++y.t.cells++Sx.L [y.cs,.int .i64 y.clipRule,.int .u8 (y.opacity.toNat:Int),.int .i64 y.blend,.bool y.isolated,.bool y.knockout,y.ps,.int .i64 y.fillRule,y.fs]++y.style.cells++Sx.L [y.ss]++y.img.cells++Sx.L [.int .i64 y.samp]).toArray)] fun ac S=>Sx.news S 107 1 (Sx.L [.int .i64 y.id,.int .i64 y.kind,.int .i64 (IntKind.i64.wrap (y.depth+(IntKind.i64.wrap (e.depth-x0.depth))))]++y.t.cells++Sx.L [y.cs,.int .i64 y.clipRule,.int .u8 (y.opacity.toNat:Int),.int .i64 y.blend,.bool y.isolated,.bool y.knockout,y.ps,.int .i64 y.fillRule,y.fs]++y.style.cells++Sx.L [y.ss]++y.img.cells++Sx.L [.int .i64 y.samp]) (fun ac u b97 E98 hb99 S=>?_)
        obtain⟨R,Y100⟩:=R.sync2 S (Sx.Stp.trans (Sx.Stp.boxv E92 hb93) (Sx.Stp.trans (Sx.Stp.chm C94 (by simp[Sx.vb])) (Sx.Stp.trans (Sx.Stp.chm C96 (by simp[Sx.vb])) (Sx.Stp.boxv E98 hb99))))
        refine Sx.app S R 0 108 rfl tyNode (Sx.raw_bx (m:=1) (k:=47) (A:=(movedD (IntKind.i64.wrap (e.depth-x0.depth)) y).cells) (S.bx 0)) (by show k+1≤9223372036854775807; omega) (by show(k+1)*656≤140737488355328; omega) fun ac u v101 X102 R S=>Sx.run S 1 [] [(8,v101)] fun ac S=>Sx.done<|κ88 _ _<|Vp.region<|Sx.run S 2 [.re 109 (.int .i64 (IntKind.i64.wrap (((k:Nat):Int)+1))) (.int .i64 (((k+1):Nat):Int))] [(96,.int .i64 (((k+1):Nat):Int))] (hk:=⟨Sx.wrap_succ (by omega),trivial⟩) fun ac S=>Sx.done ?_
        have S:=S.dropB 2
        obtain⟨R,Y103⟩:=R.sync2 S (Sx.Stp.dropv 2)
        show ∃i',_∧_
        exact⟨((k+1),v101),⟨by omega,trivial,R.as (congrArg (fun xs=>[(⟨43,47,v101,k+1,xs⟩:Sx.Row)]) (seg_snoc hk2 hy hk3)),(Sx.On.step hF_nd (Sx.Stp.trans Y100 (Sx.Stp.trans X102 Y103))),(Sx.On.step hF_row (Sx.Stp.trans Y100 (Sx.Stp.trans X102 Y103))),(Sx.On.step hF_cut (Sx.Stp.trans Y100 (Sx.Stp.trans X102 Y103))),(S.sub [(0,.pointer (some ⟨b,0,none⟩)),(1,e.v),(3,.pointer (some ⟨b2,0,none⟩)),(4,.int .i64 0),(5,.int .i64 (findI (keys s.ns) e.id)),(6,.slice a7 ((s.ns.take i++s.ns.drop e9).length) c7),(7,.slice (some ⟨gb,0+i*47,none⟩) (e9-i) (e9-i)),(8,v101),(9,.int .i64 (IntKind.i64.wrap (e.depth-x0.depth))),(20,.int .i64 e.kind),(94,.slice (some ⟨gb,0+i*47,none⟩) (e9-i) (e9-i)),(95,.int .i64 (((e9-i):Nat):Int)),(96,.int .i64 (((k+1):Nat):Int))]).noviews⟩,by show _-_<_-_; omega⟩
       ·refine wp_exit<|κ82 _ _ ?_
        obtain rfl:k=e9-i:=by have:=of_decide_eq_false hc87; omega
        have hmv:=Sx.On.self (Sx.own_rowN (f:=NodeD.cells) (L:=((s.ns.drop i).take (e9-i)).map (movedD (IntKind.i64.wrap (e.depth-x0.depth)))) (fun _=>rfl) (R.own _ List.mem_cons_self) (by simp; omega) (by rw[List.take_of_length_le (by simp; omega)]))
        have hct:=(Sx.On.self hF_cut).1
        have hix:0≤e.index∧e.index≤((s.ns.take i++s.ns.drop e9).length:Int):=by have:=hc76; simp only[Bool.or_eq_false_iff,decide_eq_false_iff_not]at this; omega
        obtain⟨ax,hat⟩:=nat_of hix.1
        refine Vp.region<|Sx.run S 5 [.mem 0 2] [(110,.pointer (some ⟨b,0,none⟩)),(111,.slice a7 ((s.ns.take i++s.ns.drop e9).length) c7),(113,.int .i64 e.index),(114,v)] (fun ac S=>?_)
        have q104:=S.E.size
        have q105:=R.lt
        refine Sx.callG S (some 115) (scInsert_any hct hmv (i:=ax) (by omega) (by simp; omega) (by simp; omega) hat) ?_
        rintro r u ⟨vi,rfl,hoi,E106⟩
        obtain⟨a9,c9,rfl⟩:=Sx.own_shape hoi
        refine⟨_,rfl,E106,fun ac S=>?_⟩
        have hnw:=Sx.own_rowT (f:=NodeD.cells) (fun _=>rfl) hoi rfl rfl
        obtain⟨R,Y107⟩:=R.sync2 S (Sx.Stp.ext E106)
        have G108:=Sx.On.imp (Sx.Dep.ow hnw q104 q105) fun _ h=>h.le q104
        refine Sx.run S 2 [] [(117,.pointer (some ⟨b,6,none⟩))] fun ac S=>Sx.store1 S 1 (off:=6) (v := .slice a9 (((s.ns.take i++s.ns.drop e9).take ax++((s.ns.drop i).take (e9-i)).map (movedD (IntKind.i64.wrap (e.depth-x0.depth)))++(s.ns.take i++s.ns.drop e9).drop ax).length) c9) rfl fun u C109 S=>Sx.done<|κ8 _ _<|Sx.seqP fun _ κ110=>Sx.run S 1 [] [(4,.int .i64 0)] fun ac S=>Sx.done<|κ110 _ _<|Vp.rt ?_
        obtain⟨R,Y111⟩:=R.sync2 S (Sx.Stp.chm C109 (by simp[Sx.vb]))
        refine Sx.ret1 S Tryz.results50 ?_
        exact⟨0,⟨s.w,s.h,s.bg,a9,c9,(s.ns.take i++s.ns.drop e9).take ax++((s.ns.drop i).take (e9-i)).map (movedD (IntKind.i64.wrap (e.depth-x0.depth)))++(s.ns.take i++s.ns.drop e9).drop ax⟩,rfl,S.E,S.bx 1,Sx.On.and (Sx.Ow.dep (Sx.On.step G108 Y111)) (Sx.On.imp (Sx.Ow.dep (Sx.On.step hF_nd (Sx.Stp.trans Y107 Y111))) fun _ h=>all_put (all_cut h i e9) (all_moved h i (e9-i)) ax ax),all_put (all_cut hf i e9) (fit_moved hf i (e9-i)) ax ax,⟨by rw[show nodesP (keys s.ns) e.key = .ok (putK (cutK (keys s.ns) i e9) ax ((segK (keys s.ns) i e9).map fun n=>n.moved x0.depth e.depth)) by unfold nodesP; rw[if_pos (show(e.key.kind=3)from by simpa[EditD.key]using hc59),show findK (keys s.ns) e.key.id=some i from hfk]; simp only; rw[←he9,if_neg (by rw[←keys_cut,List.length_map,show e.key.index=e.index from rfl]; omega),show e.key.index.toNat=ax from by rw[show e.key.index=e.index from rfl,hat]; rfl,depK_keys hi,hx0]; rfl]; exact⟨rfl,by rw[keys_put,keys_cut,moved_key,keys_seg],by rw[if_neg (fun h=>by have:=(show(e.key.kind=3)from by simpa[EditD.key]using hc59); simp only[EditD.key]at this; omega)]⟩,rfl,rfl⟩⟩
   ·refine Sx.seqP fun _ κ112=>Sx.run S 2 [] [(118,.bool ((e.kind)==4))] fun ac S=>Sx.done (κ112 _ _ ?_)
    refine Sx.cond S (fun hc113=>?_) (fun hc113=>?_)
    ·refine wp_seq_k (fun _ κ114=>?_)
     obtain⟨R,Y115⟩:=R.sync2 S (Sx.Stp.ext E7)
     have hrow:=(Sx.On.self (Sx.own_rowN (f:=NodeD.cells) (L:=s.ns) (fun _=>rfl) (R.own _ List.mem_cons_self) rfl rfl))
     refine Sx.draw S 8 [.mem 1 6,.re 123 s.s (.slice a s.ns.length cap),.mem 0 4] [(_,_,true,.int .i64 (findI (keys s.ns) e.node.id))] [(127,.int .i64 (findI (keys s.ns) e.node.id))] ⟨fun u hC g=>scFind_any (id:=e.node.id) (hrow.below hC),trivial⟩ (hk:=⟨es,trivial⟩) fun ac u E116 S=>Sx.run S 1 [] [(5,.int .i64 (findI (keys s.ns) e.node.id))] fun ac S=>Sx.done<|κ114 _ _<|wp_seq_k fun _ κ117=>Sx.seqP fun _ κ118=>Sx.run S 2 [] [(129,.bool (decide ((findI (keys s.ns) e.node.id)<0)))] fun ac S=>Sx.done (κ118 _ _ ?_)
     refine Sx.cond S (fun hc119=>?_) (fun hc119=>?_)
     ·refine Sx.seqP fun _ κ120=>Sx.run S 1 [] [(4,.int .i64 8)] fun ac S=>Sx.done<|κ120 _ _<|Vp.rt ?_
      have hfk:=((findI_cases s.ns e.node.id).resolve_right (fun⟨i,h,_⟩=>by have:=of_decide_eq_true hc119; omega)).2
      obtain⟨R,Y121⟩:=R.sync2 S (Sx.Stp.ext E116)
      refine Sx.ret1 S Tryz.results50 ?_
      exact⟨8,s,rfl,S.E,S.bx 1,(es▸Sx.On.and (Sx.own_rowT (fun _=>rfl) (R.own _ List.mem_cons_self) rfl rfl) (Sx.Ow.dep (Sx.On.step hnd (Sx.Stp.trans Y6 (Sx.Stp.trans Y115 Y121))))),hf,⟨by rw[show nodesP (keys s.ns) e.key = .error 8 by unfold nodesP nodesK; rw[if_neg (show ¬(e.key.kind=3)from by simpa[EditD.key]using hc59),if_neg (show ¬(e.key.kind=1)from by simpa[EditD.key]using hc11),if_neg (show ¬(e.key.kind=2)from by simpa[EditD.key]using hc39),if_neg (show ¬(e.key.kind=3)from by simpa[EditD.key]using hc59),if_pos (show(e.key.kind=4)from by simpa[EditD.key]using hc113),show findK (keys s.ns) e.key.node.id=none from hfk]],rfl,rfl⟩⟩
     ·refine wp_skip<|κ117 _ _<|wp_seq_k fun _ κ122=>wp_seq_k (fun _ κ123=>?_)
      obtain⟨i,hfi,hfk,hi⟩:=(findI_cases s.ns e.node.id).resolve_left (fun h=>by have:=of_decide_eq_false hc119; omega)
      obtain⟨R,Y124⟩:=R.sync2 S (Sx.Stp.ext E116)
      obtain⟨gb,rfl,hgn⟩:=row_addr R (by omega)
      have hrow:=(Sx.On.self (Sx.own_rowN (f:=NodeD.cells) (L:=s.ns) (fun _=>rfl) (R.own _ List.mem_cons_self) rfl rfl))
      obtain⟨b125,o125,c125,hv125,hb125,hr125⟩:=Vp.rowN_range2 hrow (fun _=>rfl) (i) hi
      simp only[Value.slice.injEq,Option.some.injEq,Addr.mk.injEq,true_and,and_true]at hv125
      obtain⟨⟨rfl,rfl⟩,rfl⟩:=hv125
      obtain⟨x0,hx0⟩:∃z,s.ns[i]'hi=z:=⟨_,rfl⟩
      rw[hx0,show 0+(i)*47=0+i*47 by omega]at hr125
      have S:=S.view hb125 hr125 hgn
      refine Sx.draw S 12 [.mem 0 6,.mem 1 6,.re 136 s.s (.slice (some ⟨gb,0,none⟩) s.ns.length cap),.re 137 (.int .i64 (findI (keys s.ns) e.node.id)) (.int .i64 ((i:Nat):Int)),.idx i s.ns.length,.mem 2 2] [] [(141,.bool ((e.node.depth) != x0.depth))] trivial (hk:=⟨es,(congrArg _ hfi),hi,trivial⟩) fun ac u E126 S=>Sx.done (κ123 _ _ ?_)
      refine Sx.cond S (fun hc127=>?_) (fun hc127=>?_)
      ·refine Sx.seqP fun _ κ128=>Sx.run S 1 [] [(4,.int .i64 2)] fun ac S=>Sx.done<|κ128 _ _<|Vp.rt ?_
       obtain⟨R,Y129⟩:=R.sync2 S (Sx.Stp.ext E126)
       refine Sx.ret1 S Tryz.results50 ?_
       exact⟨2,s,rfl,S.E,S.bx 1,(es▸Sx.On.and (Sx.own_rowT (fun _=>rfl) (R.own _ List.mem_cons_self) rfl rfl) (Sx.Ow.dep (Sx.On.step hnd (Sx.Stp.trans Y6 (Sx.Stp.trans Y115 (Sx.Stp.trans Y124 Y129)))))),hf,⟨by rw[show nodesP (keys s.ns) e.key = .error 2 by unfold nodesP nodesK; rw[if_neg (show ¬(e.key.kind=3)from by simpa[EditD.key]using hc59),if_neg (show ¬(e.key.kind=1)from by simpa[EditD.key]using hc11),if_neg (show ¬(e.key.kind=2)from by simpa[EditD.key]using hc39),if_neg (show ¬(e.key.kind=3)from by simpa[EditD.key]using hc59),if_pos (show(e.key.kind=4)from by simpa[EditD.key]using hc113),show findK (keys s.ns) e.key.node.id=some i from hfk]; simp only; rw[depK_keys hi,hx0,if_pos (by simpa[EditD.key,NodeD.key]using hc127)]],rfl,rfl⟩⟩
      ·refine wp_skip<|κ122 _ _ ?_
       obtain⟨R,Y130⟩:=R.sync2 S (Sx.Stp.ext E126)
       have q131:=S.E.size
       have q132:=R.lt
       refine Sx.drawX S 9 [(149,fun v w1=>∃m:NodeD,v=m.v∧m.cp u.heap.size w1∧m.strip=e.node.strip)] (fun r=>[.mem 1 6,.re 145 s.s (.slice (some ⟨gb,0,none⟩) s.ns.length cap),.re 146 (.int .i64 (findI (keys s.ns) e.node.id)) (.int .i64 ((i:Nat):Int)),.mem 0 4,.idx i s.ns.length]) (fun x=>[x 149]) (fun x=>[(_,_,true,x 149,149)]) [[]] (fun x=>[(149,x 149),(150,.pointer (some ⟨gb,0+i*47,none⟩))]) ⟨fun _ _ _ k h=>by obtain⟨m,e,h,q⟩:=h; exact⟨m,e,h.ext k,q⟩,trivial⟩ (fun x=>⟨by intro u hC g F; exact(clone_any (he.2.2.2.2.1.below (Ext.trans' S.E hC)) hel).mono fun e w2 h=>by obtain⟨m,rfl,hx,hs,hb⟩:=h; exact⟨_,rfl,⟨m,rfl,node_le hx hC.size,hs⟩,hb⟩,trivial⟩) (fun ac u x E133 F S=>?_) (hk:=fun r=>⟨es,(congrArg _ hfi),hi,trivial⟩)
       obtain⟨F149,-⟩:=F
       obtain⟨m,em,hm,hms⟩:=F149
       rw[em]at S
       obtain⟨R,Y134⟩:=R.sync2 S (Sx.Stp.ext E133)
       have G135:=Sx.On.imp (Sx.Dep.ow hm q131 q132) fun _ h=>okT_le h q131
       refine Sx.storeRow S R 0 (off:=0+i*47) (cs:=m.cells) rfl rfl (by show 0+i*47+47≤_; rw[Sx.flatMap_len (f:=NodeD.cells) (k:=47) (fun _=>rfl)]; omega) (fun u X136 R S=>?_)
       have R:=R.as (congrArg (fun xs=>[(⟨43,47,.slice (some ⟨gb,0,none⟩) s.ns.length cap,s.ns.length,xs⟩:Sx.Row)]) (flat_set hi m))
       refine Sx.done<|κ8 _ _<|Sx.seqP fun _ κ137=>Sx.run S 1 [] [(4,.int .i64 0)] fun ac S=>Sx.done<|κ137 _ _<|Vp.rt ?_
       refine Sx.ret1 S Tryz.results50 ?_
       exact⟨0,⟨s.w,s.h,s.bg,s.nsa,s.nsc,s.ns.set i m⟩,rfl,S.E,(by rw[set_cells]; exact S.bx 1),Sx.On.and (by show Sx.On _ (Sx.RowT _ _ _ _ (SceneD.s ⟨s.w,s.h,s.bg,s.nsa,s.nsc,s.ns.set i m⟩) (s.ns.set i m)) _; rw[set_s,es]; exact Sx.own_rowT (fun _=>rfl) (R.own _ List.mem_cons_self) (by simp) rfl) (Sx.On.imp (Sx.On.and (Sx.Ow.dep (Sx.On.step hnd (Sx.Stp.trans Y6 (Sx.Stp.trans Y115 (Sx.Stp.trans Y124 (Sx.Stp.trans Y130 (Sx.Stp.trans Y134 X136))))))) (Sx.Ow.dep (Sx.On.step G135 X136))) fun _ h=>all_set h.1 h.2 i),all_set hf (fitL_strip ⟨he.2.2.2.2.2,hel⟩ hms) i,⟨by rw[show nodesP (keys s.ns) e.key = .ok ((keys s.ns).set i e.node.key) by unfold nodesP nodesK; rw[if_neg (show ¬(e.key.kind=3)from by simpa[EditD.key]using hc59),if_neg (show ¬(e.key.kind=1)from by simpa[EditD.key]using hc11),if_neg (show ¬(e.key.kind=2)from by simpa[EditD.key]using hc39),if_neg (show ¬(e.key.kind=3)from by simpa[EditD.key]using hc59),if_pos (show(e.key.kind=4)from by simpa[EditD.key]using hc113),show findK (keys s.ns) e.key.node.id=some i from hfk]; simp only; rw[depK_keys hi,hx0,if_neg (by simpa[EditD.key,NodeD.key]using hc127)]; rfl]; exact⟨rfl,by simp[keys,List.map_set,key_strip' hms],by rw[if_neg (fun h=>by have:=(show(e.key.kind=4)from by simpa[EditD.key]using hc113); simp only[EditD.key]at this; omega)]⟩,rfl,rfl⟩⟩
    ·refine Sx.seqP fun _ κ138=>Sx.run S 2 [] [(151,.bool ((e.kind)==5))] fun ac S=>Sx.done (κ138 _ _ ?_)
     refine Sx.cond S (fun hc139=>?_) (fun hc139=>?_)
     ·refine Vp.region<|Sx.run S 5 [.mem 0 51] [(155,.agg e.color.cells.toArray),(157,.pointer (some ⟨b,2,none⟩))] fun ac S=>Sx.store S 1 (off:=2) (cs:=e.color.cells) rfl fun u C140 S=>Sx.done<|κ8 _ _<|Sx.seqP fun _ κ141=>Sx.run S 1 [] [(4,.int .i64 0)] fun ac S=>Sx.done<|κ141 _ _<|Vp.rt ?_
      obtain⟨R,Y142⟩:=R.sync2 S (Sx.Stp.trans (Sx.Stp.ext E7) (Sx.Stp.chm C140 (by simp[Sx.vb])))
      refine Sx.ret1 S Tryz.results50 ?_
      exact⟨0,⟨s.w,s.h,e.color,s.nsa,s.nsc,s.ns⟩,rfl,S.E,S.bx 1,(es▸Sx.On.and (Sx.own_rowT (fun _=>rfl) (R.own _ List.mem_cons_self) rfl rfl) (Sx.Ow.dep (Sx.On.step hnd (Sx.Stp.trans Y6 Y142))):CpNodes _ s.s _ _),hf,⟨by rw[show nodesP (keys s.ns) e.key = .ok (keys s.ns) by unfold nodesP nodesK; rw[if_neg (show ¬(e.key.kind=3)from by simpa[EditD.key]using hc59),if_neg (show ¬(e.key.kind=1)from by simpa[EditD.key]using hc11),if_neg (show ¬(e.key.kind=2)from by simpa[EditD.key]using hc39),if_neg (show ¬(e.key.kind=3)from by simpa[EditD.key]using hc59),if_neg (show ¬(e.key.kind=4)from by simpa[EditD.key]using hc113)]]; exact⟨rfl,rfl,by rw[if_pos (by simpa using hc139)]⟩,rfl,rfl⟩⟩
     ·refine wp_skip<|κ8 _ _<|Sx.seqP fun _ κ143=>Sx.run S 1 [] [(4,.int .i64 0)] fun ac S=>Sx.done<|κ143 _ _<|Vp.rt ?_
      obtain⟨R,Y144⟩:=R.sync2 S (Sx.Stp.ext E7)
      refine Sx.ret1 S Tryz.results50 ?_
      exact⟨0,s,rfl,S.E,S.bx 1,(es▸Sx.On.and (Sx.own_rowT (fun _=>rfl) (R.own _ List.mem_cons_self) rfl rfl) (Sx.Ow.dep (Sx.On.step hnd (Sx.Stp.trans Y6 Y144)))),hf,⟨by rw[show nodesP (keys s.ns) e.key = .ok (keys s.ns) by unfold nodesP nodesK; rw[if_neg (show ¬(e.key.kind=3)from by simpa[EditD.key]using hc59),if_neg (show ¬(e.key.kind=1)from by simpa[EditD.key]using hc11),if_neg (show ¬(e.key.kind=2)from by simpa[EditD.key]using hc39),if_neg (show ¬(e.key.kind=3)from by simpa[EditD.key]using hc59),if_neg (show ¬(e.key.kind=4)from by simpa[EditD.key]using hc113)]]; exact⟨rfl,rfl,by rw[if_neg (by simpa using hc139)]⟩,rfl,rfl⟩⟩
end Go.Proofs.YtfmkkemfhjkajaaGreatDoor
