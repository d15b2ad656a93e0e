/- Package scene: edit. -/
import Derived.Test.YtfmkkemfhjkajaaGreatDoorPk41
namespace Go.Proofs.YtfmkkemfhjkajaaGreatDoor
open Go.RowKit
variable{α:Type}{K:Nat}
set_option linter.unusedVariables false
def Zo(s:aS)(e:bC)(code:Int)(t:aS):Prop:=
 (match fO (keys s.ns) e.key with | .error n=>code=n | .ok l=>code=0∧keys t.ns=l∧t.bg=if e.kind=5 then e.color else s.bg)∧t.w=s.w∧t.h=s.h
theorem nD(l:List aj)(id:Int):(iY (keys l) id = -1∧ji (keys l) id=none)∨∃i:Nat,iY (keys l) id=(i:Int)∧ji (keys l) id=some i∧i<l.length:=by
 unfold iY
 cases h:ji (keys l) id with
 | none=>exact .inl ⟨rfl,rfl⟩
 | some i =>
  obtain⟨hi,_⟩:=zI h
  exact .inr ⟨i,rfl,rfl,by simpa using hi⟩
theorem abA{w0 w:World}{a:Act}{n:Nat}{l:List (Nat×Value)}{b:Nat}{A:List Value}{vs:List Sx.iG}(S:Sx.St w0 a w n l [(b,A)] vs){v:Value}{m:Nat}{xs:List Value}(ho:w.ownsRow w0.heap.size 43 47 v m xs)(hb:v.ownBlock≠some b):Sx.Rw w0 w [(b,A)] [⟨43,47,v,m,xs⟩]:=by
 refine⟨fun r hr=>by obtain rfl:=List.mem_singleton.1 hr; exact ho,fun c hc=>?_,?_⟩
 ·unfold Sx.Ob at hc
  simp only[List.map_cons,List.map_nil,List.filterMap_cons,List.filterMap_nil,List.mem_append,List.mem_singleton]at hc
  rcases hc with rfl | hc
  ·exact(S.bx 0).1
  ·cases hv:v.ownBlock with
   | none=>rw[hv]at hc; cases hc
   | some g=>rw[hv]at hc; obtain rfl:=List.mem_singleton.1 hc; exact(Sx.iH ho hv).2
 ·unfold Sx.Ob
  cases hv:v.ownBlock with
  | none=>simp[hv]
  | some g=>simp[hv]; intro e; rw[e]at hb; exact hb hv
theorem Sz{base:Nat}{bl:List (Nat×List Value)}{r:Sx.Row}{rs:List Sx.Row}{F:World→Prop}{w:World}(h:Sx.Ow base (Sx.Ob bl (r::rs)) F w):Sx.Ow base (Sx.Ob bl rs) F w:=
 h.mono fun k hk=>⟨hk.1,fun hm=>hk.2 (by
  rcases List.mem_append.1 hm with h | h
  ·exact List.mem_append_left _ h
  ·refine List.mem_append_right _ ?_
   rw[List.filterMap_cons]
   cases r.v.ownBlock
   ·exact h
   ·exact List.mem_cons_of_mem _ h)⟩
theorem ZV{w:World}{B:Nat}{v:Value}{m:Nat}{L:List aj}(ho:w.ownsRow B 43 47 v m (L.flatMap aj.cells))(hm:m=L.length):Sx.On (fun i=>v.ownBlock=some i) (Sx.kD 43 47 aj.cells B v L) w:=fun w' hs hb =>
 Sx.On.self (Sx.fV (fun _=>rfl) (Sx.lZ ho fun g hg=>hb g (Sx.iH ho hg).2 hg) hm rfl)
theorem SA{w0 w:World}{bl:List (Nat×List Value)}{v:Value}{m:Nat}{L:List aj}{rs:List Sx.Row}(R:Sx.Rw w0 w bl (⟨43,47,v,m,L.flatMap aj.cells⟩::rs))(hm:m=L.length):Sx.Ow w0.heap.size (Sx.Ob bl rs) (Sx.kD 43 47 aj.cells w0.heap.size v L) w:=by
 have ho:=R.own _ List.mem_cons_self
 refine(ZV ho hm).mono fun i hi=>⟨(Sx.iH ho hi).1,fun hmem=>?_⟩
 have hap:=R.apart
 unfold Sx.Ob at hap hmem
 rw[List.filterMap_cons,show(⟨43,47,v,m,L.flatMap aj.cells⟩:Sx.Row).v.ownBlock=some i from hi]at hap
 have hd:=List.nodup_append.1 hap
 rcases List.mem_append.1 hmem with h | h
 ·exact hd.2.2 i h i (by simp) rfl
 ·exact(List.nodup_cons.1 hd.2.1).1 h
theorem Hf{w0 w:World}{bl:List (Nat×List Value)}{a:Option Addr}{n c:Nat}{xs:List Value}{rs:List Sx.Row}(R:Sx.Rw w0 w bl (⟨43,47,.slice a n c,n,xs⟩::rs))(hn:0<n):∃g,a=some ⟨g,0,none⟩∧∀p∈bl,p.1≠g:=by
 obtain⟨g,rfl⟩:=L8 (R.own _ List.mem_cons_self) hn
 exact⟨g,rfl,(R.range List.mem_cons_self rfl 0 (cs:=[]) rfl).2.2⟩
theorem Po{g i m k:Nat}(h:m≠i):Sx.wz (some ⟨g,0,none⟩) i m k=some ⟨g,0+i*k,none⟩:=by
 unfold Sx.wz; rw[if_neg h]
 show some ((⟨g,0,none⟩:Addr).add (i*k))=_
 congr 1
 unfold Addr.add; split<;>simp_all
def mD(d:Int)(n:aj):aj:={n with depth:=IntKind.i64.wrap (n.depth+d)}
theorem ZW(z:Int):I64 (IntKind.i64.wrap z):=by rw[IntKind.wrap_i64]; constructor<;>omega
theorem WY{base:Nat}{w:World}{n:aj}{d:Int}(h:n.qY base w):(mD d n).qY base w:=⟨⟨h.1.1,h.1.2.1,ZW _,h.1.2.2.2⟩,h.2⟩
theorem WZ(l:List aj)(root to:Int):keys (l.map (mD (IntKind.i64.wrap (to-root))))=(keys l).map fun n=>n.moved root to:=by
 unfold keys; rw[List.map_map,List.map_map]; rfl
theorem Pq(l m:List aj)(i:Nat):keys (l.take i++m++l.drop i)=Gi (keys l) i (keys m):=by unfold keys Gi; simp
theorem Bd(l:List aj)(i j:Nat):keys (l.take i++l.drop j)=uq (keys l) i j:=by unfold keys uq; simp
theorem ZX(l:List aj)(i j:Nat):keys ((l.drop i).take (j-i))=BP (keys l) i j:=by unfold keys BP; simp
theorem DY{P:aj→Prop}{l m:List aj}(hl:∀n∈l,P n)(hm:∀n∈m,P n)(i j:Nat):∀n∈l.take i++m++l.drop j,P n:=fun n hn=>by
 rcases List.mem_append.1 hn with h | h
 ·rcases List.mem_append.1 h with h | h
  ·exact hl n (List.mem_of_mem_take h)
  ·exact hm n h
 ·exact hl n (List.mem_of_mem_drop h)
theorem DZ{P:aj→Prop}{l:List aj}(hl:∀n∈l,P n)(i j:Nat):∀n∈l.take i++l.drop j,P n:=fun n hn=>by
 rcases List.mem_append.1 hn with h | h
 ·exact hl n (List.mem_of_mem_take h)
 ·exact hl n (List.mem_of_mem_drop h)
theorem abB{A B C D:List Value}{o:Nat}(ho:o=A.length)(hl:D.length=B.length):Sx.spl (A++(B++C)) o D=A++(D++C):=by
 subst ho
 unfold Sx.spl
 rw[List.take_left,←List.drop_drop,List.drop_left,hl,List.drop_left,List.append_assoc]
theorem ZY{L:List aj}{i:Nat}(hi:i<L.length)(m:aj):Sx.spl (L.flatMap aj.cells) (0+i*47) m.cells=(L.set i m).flatMap aj.cells:=by
 have h1:L.flatMap aj.cells=(L.take i).flatMap aj.cells++(L[i].cells++(L.drop (i+1)).flatMap aj.cells):=by
  rw[←List.flatMap_cons,←List.flatMap_append,List.getElem_cons_drop,List.take_append_drop]
 rw[h1,abB (D:=m.cells) (by rw[Sx.jh (f:=aj.cells) (k:=47) (fun _=>rfl),List.length_take,Nat.min_eq_left (by omega)]; omega) (show m.cells.length=L[i].cells.length from rfl),List.set_eq_take_append_cons_drop,if_pos hi,List.flatMap_append,List.flatMap_cons]
theorem Z4{w0 w:World}{b:Nat}{A:List Value}{v:Value}{m:Nat}{xs:List Value}{F:World→Prop}(h:Sx.On (fun i=>w0.heap.size≤i∧i≠b∧v.ownBlock≠some i) F w):Sx.Ow w0.heap.size (Sx.Ob [(b,A)] [⟨43,47,v,m,xs⟩]) F w:=
 h.mono fun i hi=>⟨hi.1,fun hm=>by
  unfold Sx.Ob at hm
  simp only[List.map_cons,List.map_nil,List.filterMap_cons,List.filterMap_nil,List.mem_append,List.mem_singleton]at hm
  rcases hm with rfl | hm
  ·exact hi.2.1 rfl
  ·cases hv:v.ownBlock with
   | none=>rw[hv]at hm; cases hm
   | some g=>rw[hv]at hm; obtain rfl:=List.mem_singleton.1 hm; exact hi.2.2 hv⟩
theorem Lm{base:Nat}{bl:List (Nat×List Value)}{F:World→Prop}{w:World}(h:Sx.Ow base (Sx.Ob bl []) F w):Sx.Ow base (Sx.Ob bl [⟨43,47,.slice none 0 0,0,[]⟩]) F w:=h
theorem one_row{w:World}{b:Nat}{m:aj}(hx:Bx w b m.cells.toArray):aT 47 aj.cells w (.slice (some ⟨b,0,none⟩) 1 1) [m]:=
 ⟨_,1,rfl,by decide,.inr ⟨b,0,rfl,hx.1,Nat.le_refl _,fun i hi j hj=>by
  obtain rfl:i=0:=by simpa using hi
  rw[show 0+0*47+j=j by omega,hx.2.1,List.getElem?_toArray]; rfl⟩⟩
theorem Z5{l:List aj}{i e k:Nat}{d:Int}{y:aj}(h:i+k<l.length)(hy:l[i+k]=y)(hk:k<e-i):(((l.drop i).take (e-i)).take k |>.map (mD d)).flatMap aj.cells++(mD d y).cells=(((l.drop i).take (e-i)).take (k+1) |>.map (mD d)).flatMap aj.cells:=by
 have h1:k<((l.drop i).take (e-i)).length:=by simp; omega
 rw[List.take_succ_eq_append_getElem h1,List.map_append,List.flatMap_append]
 congr 1
 simp[hy]
theorem W9{base:Nat}{w:World}{l:List aj}{d:Int}(h:∀n∈l,n.qY base w)(i m:Nat):∀n∈((l.drop i).take m).map (mD d),n.qY base w:=fun n hn=>by
 obtain⟨x,hx,rfl⟩:=List.mem_map.1 hn
 exact WY (h x (List.mem_of_mem_drop (List.mem_of_mem_take hx)))
theorem Xa{l:List aj}{d:Int}(h:∀n∈l,n.RH K)(i m:Nat):∀n∈((l.drop i).take m).map (mD d),n.RH K:=fun n hn=>by
 obtain⟨x,hx,rfl⟩:=List.mem_map.1 hn
 exact h x (List.mem_of_mem_drop (List.mem_of_mem_take hx))
theorem ab4(s:aS)(i:Nat)(m:aj):aS.s ⟨s.w,s.h,s.bg,s.nsa,s.nsc,s.ns.set i m⟩=s.s:=by unfold aS.s; simp
theorem Xb(s:aS)(i:Nat)(m:aj):aS.cells ⟨s.w,s.h,s.bg,s.nsa,s.nsc,s.ns.set i m⟩=s.cells:=by unfold aS.cells; rw[ab4]
theorem UF{P:aj→Prop}{l:List aj}{m:aj}(h:∀n∈l,P n)(hm:P m)(i:Nat):∀n∈l.set i m,P n:=fun n hn=>by
 rcases List.mem_or_eq_of_mem_set hn with h1 | rfl
 ·exact h n h1
 ·exact hm
set_option maxRecDepth 100000 in
set_option maxHeartbeats 2400000 in
theorem RJ{w0 w:World}{b:Nat}{s:aS}{e:bC}(hE:Ext w0 w)(hx:Bx w b s.cells.toArray)(hb:w0.heap.size≤b)(ho:s.own w0.heap.size w)(hob:s.s.ownBlock≠some b)(hnb:Sx.On (fun i=>w0.heap.size≤i∧i≠b∧s.s.ownBlock≠some i) (fun W=>∀n∈s.ns,n.qY w0.heap.size W) w)(hf:∀n∈s.ns,n.RH K)(he:zo K w0 e)(hel:e.node.lim)(hn:s.ns.length≤1000) :
  Calls Tryz.prog 50 #[.pointer (some ⟨b,0,none⟩),e.v] w fun r w'=>∃(code:Int) (t:aS),r = .returned (.int .i64 code)∧Ext w0 w'∧Bx w' b t.cells.toArray∧kY w0.heap.size t.s t.ns w'∧(∀n∈t.ns,n.RH K)∧Zo s e code t:=by
 skip
 refine Sx.PS Tryz.func50 Tryz.ntmps50 hE hx hb (fun ac S=>?_)
 obtain⟨a,cap,es⟩:∃a c,s.s = .slice a s.ns.length c:=⟨_,_,rfl⟩
 have hor:=ho.row
 rw[es]at hor hob hnb
 have R:=abA S hor hob
 have hnd:=Z4 (A:=s.cells) (m:=s.ns.length) (xs:=s.ns.flatMap aj.cells) hnb
 refine aiG fun _ aU=>aiJ S 3 e.cells fun ac u b2 E3 hb4 S=>adr S 1 [] [(4,.int .i64 0)] fun ac S=>aiF<|aU _ _<|wp_seq_k (fun _ bV=>?_)
 obtain⟨R,Y6⟩:=R.eH S (Sx.Stp.NJ E3 hb4)
 have hrow:=(Sx.On.self (Sx.rJ (f:=aj.cells) (L:=s.ns) (fun _=>rfl) (R.own _ List.mem_cons_self) rfl rfl))
 refine aiO S 7 [.mem 1 6,.re 15 s.s (.slice a s.ns.length cap),.mem 0 1] [(_,_,true,.int .i64 (iY (keys s.ns) e.id))] [(18,.int .i64 (iY (keys s.ns) e.id))] ⟨fun u hC g=>zO (id:=e.id) (hrow.below hC),trivial⟩ (hk:=⟨es,trivial⟩) fun ac u E7 S=>adr S 1 [] [(5,.int .i64 (iY (keys s.ns) e.id))] fun ac S=>aiF<|bV _ _<|wp_seq_k fun _ dP=>aiG fun _ gB=>adr S 2 [.mem 0 0] [(20,.int .i64 e.kind)] fun ac S=>aiF<|gB _ _<|wp_block<|aiG fun _ dV=>adr S 2 [] [(21,.bool ((e.kind)==1))] fun ac S=>aiF (dV _ _ ?_)
 refine aiI S (fun gu=>?_) (fun gu=>?_)
 ·refine wp_seq_k fun _ dw=>wp_seq_k fun _ fZ=>aiO S 13 [.mem 0 2,.mem 0 2,.mem 1 6,.re 32 s.s (.slice a s.ns.length cap)] [] [(35,.bool ((decide (e.index<0))||(decide (((s.ns.length:Nat):Int)<e.index))))] trivial (hk:=⟨es,trivial⟩) fun ac u Ei S=>aiF (fZ _ _ ?_)
  refine aiI S (fun oD=>?_) (fun oD=>?_)
  ·refine aiG fun _ iR=>adr S 1 [] [(4,.int .i64 6)] fun ac S=>aiF<|iR _ _<|Vp.rt ?_
   obtain⟨R,Y17⟩:=R.eH S (Sx.Stp.trans (Sx.Stp.ext E7) (Sx.Stp.ext Ei))
   refine aiH S Tryz.results50 ?_
   exact⟨6,s,rfl,S.E,S.bx 1,(es▸Sx.On.and (Sx.fV (fun _=>rfl) (R.own _ List.mem_cons_self) rfl rfl) (Sx.Ow.dep (Sx.On.step hnd (Sx.Stp.trans Y6 Y17)))),hf,⟨by rw[show fO (keys s.ns) e.key = .error 6 by unfold fO lY; rw[if_neg (show ¬e.key.kind=3 from fun h=>by have:=(show(e.key.kind=1)from by simpa[bC.key]using gu); omega),if_pos (show(e.key.kind=1)from by simpa[bC.key]using gu),if_pos (by have:=oD; simp only[Bool.or_eq_true,decide_eq_true_eq]at this; rw[List.length_map]; exact this)]],rfl,rfl⟩⟩
  ·refine wp_skip<|dw _ _ ?_
   have hix:0≤e.index∧e.index≤(s.ns.length:Int):=by have:=oD; simp only[Bool.or_eq_false_iff,decide_eq_false_iff_not]at this; omega
   obtain⟨ax,hat⟩:=zK hix.1
   obtain⟨R,Y18⟩:=R.eH S (Sx.Stp.trans (Sx.Stp.ext E7) (Sx.Stp.ext Ei))
   have hrw:=SA R rfl
   have Xc:=Sz (Sx.On.step hnd (Sx.Stp.trans Y6 Y18))
   have R:=Sx.Rw.pop R
   have hold:=fun p hp=>(S.own p hp).1.1
   have q19:=S.E.size
   have q20:=R.lt
   have hrow:=(Sx.On.self hrw).1
   refine Sx.ac6 S [0] 11 [] [(36,.pointer (some ⟨b,0,none⟩))] (fun ac S=>?_)
   refine Sx.uY S 11 [(45,fun v w1=>∃m:aj,v=m.v∧m.cp u.heap.size w1∧m.strip=e.node.strip),(46,fun v w1=>∃m b,v = .slice (some ⟨b,0,none⟩) 1 1∧u.heap.size≤b∧Bx w1 b (aj.cells m).toArray∧Sx.On (fun i=>u.heap.size≤i∧i≠b) (fun W=>m.qY u.heap.size W) w1∧m.strip=e.node.strip)] (fun r=>[.mem 1 6,.re 40 s.s (.slice a s.ns.length cap),.mem 0 2,.mem 0 4,.hand 46 []]) (fun x=>[x 45,x 46]) (fun x=>[(_,_,true,x 45,45)]) [[]] (fun x=>[(36,.pointer (some ⟨b,0,none⟩)),(40,.slice a s.ns.length cap),(42,.int .i64 e.index),(46,x 46)]) ⟨fun _ _ _ k h=>by obtain⟨m,e,h,q⟩:=h; exact⟨m,e,h.ext k,q⟩,fun v w w' k h=>by obtain⟨m,b,e,h1,h2,h3,q⟩:=h; exact⟨m,b,e,h1,h2.ext k,h3.ext k,q⟩,trivial⟩ (fun x=>⟨by intro u hC g F; exact(clone_any (he.2.2.2.2.1.below (Ext.trans' S.E hC)) hel).mono fun e w2 h=>by obtain⟨m,rfl,hx,hs,hb⟩:=h; exact⟨_,rfl,⟨m,rfl,JO hx hC.size,hs⟩,hb⟩,trivial⟩) (fun ac u x LD F S=>?_) (hk:=fun r=>⟨es,trivial,trivial⟩) (hl:=[(10,[45])]) (hH:=fun x r=>⟨fun o ho ρ u hs hE hρ hV F=>by obtain⟨F45,-⟩:=F; obtain⟨m,e,h,q⟩:=F45; exact Sx.MO ho hs [(45,m.v)] (Sx.look1 ((hρ 45 (by decide) rfl).trans e)) m.cells (some 1) (fun v w' hn hE2=>Sx.uz ho rfl rfl hE2 (by obtain⟨b,e2,h2,h3⟩:=hn; exact⟨m,b,e2,Nat.le_trans hE.size h2,h3,Sx.On.fresh h hE2 h2,q⟩)),trivial⟩)
   obtain⟨F45,F46,-⟩:=F
   clear F45
   obtain⟨m,b22,ahw,Qx,X23,hm,hms⟩:=F46
   rw[ahw]at S
   have S:=S.aK
   have S:=S.adopt (A:=m.cells) X23 (Nat.le_trans q19 Qx) (fun p hp=>by have:=hold p hp; omega) (fun m hm=>by cases hm)
   obtain⟨R,Y25⟩:=R.eH S ((Sx.Stp.ext LD).adw Qx)
   have G26:=Sx.On.imp (Sx.Zn R hm q20 q19) fun _ h=>BU h q19
   have hrow:=(Sx.On.self (Sx.On.step hrw Y25)).1
   have hone:=one_row (S.bx 0)
   have q27:=S.E.size
   have q28:=R.lt
   have q29:=S.E.size
   have q30:=R.lt
   refine aiQ S (some 47) (AU hrow hone (i:=ax) (by omega) (by simp) (by simp; omega) hat) ?_
   rintro r u ⟨vi,rfl,hoi,JB⟩
   obtain⟨a9,c9,rfl⟩:=Sx.kW hoi
   refine⟨_,rfl,JB,fun ac S=>?_⟩
   have hnw:=Sx.fV (f:=aj.cells) (fun _=>rfl) hoi rfl rfl
   obtain⟨R,Y32⟩:=R.eH S (Sx.Stp.ext JB)
   have G33:=Sx.On.imp (Sx.iE.ow hnw q29 q30) fun _ h=>h.le q29
   refine adr S 2 [] [(49,.pointer (some ⟨b,6,none⟩))] fun ac S=>aiW S 2 (off:=6) (v := .slice a9 ((s.ns.take ax++[m]++s.ns.drop ax).length) c9) rfl fun u C34 S=>aiF<|dP _ _<|aiG fun _ oK=>adr S 1 [] [(4,.int .i64 0)] fun ac S=>aiF<|oK _ _<|Vp.rt ?_
   obtain⟨R,Y36⟩:=R.eH S (Sx.Stp.chm C34 (by simp[Sx.vb]))
   refine aiH S Tryz.results50 ?_
   exact⟨0,⟨s.w,s.h,s.bg,a9,c9,s.ns.take ax++[m]++s.ns.drop ax⟩,rfl,S.E,S.bx 2,Sx.On.and (Sx.Ow.dep (Sx.On.step G33 Y36)) (Sx.On.imp (Sx.On.and (Sx.Ow.dep (Sx.On.step Xc (Sx.Stp.trans Y25 (Sx.Stp.trans Y32 Y36)))) (Sx.Ow.dep (Sx.On.step G26 (Sx.Stp.trans Y32 Y36)))) fun _ h=>DY h.1 (fun n hn=>by rw[List.mem_singleton.1 hn]; exact h.2) ax ax),DY hf (fun n hn=>by rw[List.mem_singleton.1 hn]; exact Gu ⟨he.2.2.2.2.2,hel⟩ hms) ax ax,⟨by rw[show fO (keys s.ns) e.key = .ok (Gi (keys s.ns) ax [e.node.key]) by unfold fO lY; rw[if_neg (show ¬e.key.kind=3 from fun h=>by have:=(show(e.key.kind=1)from by simpa[bC.key]using gu); omega),if_pos (show(e.key.kind=1)from by simpa[bC.key]using gu),if_neg (by rw[List.length_map,show e.key.index=e.index from rfl]; omega),show e.key.index.toNat=ax from by rw[show e.key.index=e.index from rfl,hat]; rfl]; rfl]; exact⟨rfl,by rw[Pq]; simp[keys,Gq hms],by rw[if_neg (fun h=>by have:=(show(e.key.kind=1)from by simpa[bC.key]using gu); simp only[bC.key]at this; omega)]⟩,rfl,rfl⟩⟩
 ·refine wp_seq_k fun _ qo=>aiG fun _ jG=>adr S 2 [] [(50,.bool ((e.kind)==2))] fun ac S=>aiF (jG _ _ ?_)
  refine aiI S (fun hc39=>?_) (fun hc39=>?_)
  ·refine wp_skip<|qo _ _ ?_
   refine aiI S (fun uI=>?_) (fun uI=>?_)
   ·refine wp_seq_k fun _ qW=>aiG fun _ qX=>adr S 2 [] [(54,.bool (decide ((iY (keys s.ns) e.id)<0)))] fun ac S=>aiF (qX _ _ ?_)
    refine aiI S (fun Ll=>?_) (fun Ll=>?_)
    ·refine aiG fun _ wE=>adr S 1 [] [(4,.int .i64 8)] fun ac S=>aiF<|wE _ _<|Vp.rt ?_
     have hfk:=((nD s.ns e.id).resolve_right (fun⟨i,h,_⟩=>by have:=of_decide_eq_true Ll; omega)).2
     obtain⟨R,Y45⟩:=R.eH S (Sx.Stp.ext E7)
     refine aiH S Tryz.results50 ?_
     exact⟨8,s,rfl,S.E,S.bx 1,(es▸Sx.On.and (Sx.fV (fun _=>rfl) (R.own _ List.mem_cons_self) rfl rfl) (Sx.Ow.dep (Sx.On.step hnd (Sx.Stp.trans Y6 Y45)))),hf,⟨by rw[show fO (keys s.ns) e.key = .error 8 by unfold fO lY; rw[if_neg (show ¬e.key.kind=3 from fun h=>by have:=(show(e.key.kind=2)from by simpa[bC.key]using hc39); omega),if_neg (show ¬(e.key.kind=1)from by simpa[bC.key]using gu),if_pos (show(e.key.kind=2)from by simpa[bC.key]using hc39),show ji (keys s.ns) e.key.id=none from hfk]],rfl,rfl⟩⟩
    ·refine wp_skip<|qW _ _<|wp_seq_k (fun _ zU=>?_)
     obtain⟨i,hfi,hfk,hi⟩:=(nD s.ns e.id).resolve_left (fun h=>by have:=of_decide_eq_false Ll; omega)
     have hek:=qL (l:=keys s.ns) (i:=i) (by simpa using hi)
     rw[List.length_map]at hek
     obtain⟨R,Y47⟩:=R.eH S (Sx.Stp.ext E7)
     obtain⟨gb,rfl,hgn⟩:=Hf R (by omega)
     have hrw:=SA R rfl
     have Xc:=Sz (Sx.On.step hnd (Sx.Stp.trans Y6 Y47))
     have R:=Sx.Rw.pop R
     have hrow:=(Sx.On.self hrw).1
     have q48:=S.E.size
     have q49:=R.lt
     obtain⟨e9,he9⟩:∃z,z=eu (keys s.ns) i:=⟨_,rfl⟩
     rw[←he9]at hek
     have hro:=hrw
     refine aiV S 16 [(67,fun v w1=>∃v1,v = .tuple #[v1,.slice (some ⟨gb,0+i*47,none⟩) (e9-i) (e9-i)]∧Sx.On (fun j=>(w0.heap.size≤j∧j∉Sx.Ob [(b2,e.cells),(b,s.cells)] [])∨u.heap.size≤j) (Sx.kD 43 47 aj.cells w0.heap.size v1 (s.ns.take i++s.ns.drop e9)) w1),(55,fun v w1=>∃v1,v = .tuple #[v1,.slice (some ⟨gb,0+i*47,none⟩) (e9-i) (e9-i)]∧Sx.On (fun j=>(w0.heap.size≤j∧j∉Sx.Ob [(b2,e.cells),(b,s.cells)] [])∨u.heap.size≤j) (Sx.kD 43 47 aj.cells w0.heap.size v1 (s.ns.take i++s.ns.drop e9)) w1),(68,fun v w1=>Sx.On (fun j=>(w0.heap.size≤j∧j∉Sx.Ob [(b2,e.cells),(b,s.cells)] [])∨u.heap.size≤j) (Sx.kD 43 47 aj.cells w0.heap.size v (s.ns.take i++s.ns.drop e9)) w1),(69,fun v w1=>v = .slice (some ⟨gb,0+i*47,none⟩) (e9-i) (e9-i)),(6,fun v w1=>Sx.On (fun j=>(w0.heap.size≤j∧j∉Sx.Ob [(b2,e.cells),(b,s.cells)] [])∨u.heap.size≤j) (Sx.kD 43 47 aj.cells w0.heap.size v (s.ns.take i++s.ns.drop e9)) w1)] (fun r=>[.mem 1 6,.re 59 s.s (.slice (some ⟨gb,0,none⟩) s.ns.length cap),.mem 1 6,.re 64 s.s (.slice (some ⟨gb,0,none⟩) s.ns.length cap),.hand 55 [],.hand 68 [],.hand 69 [],.hand 6 []]) (fun x=>[.int .i64 ((e9:Nat):Int),x 67,x 55,x 68,x 69,x 6]) (fun x=>[(_,_,true,.int .i64 ((e9:Nat):Int),66),(_,_,true,x 67,67)]) [[],[]] (fun x=>[(6,x 6),(69,x 69)]) ⟨fun _ _ _ k h=>by obtain⟨v1,e,h⟩:=h; exact⟨v1,e,h.ext k⟩,fun _ _ _ k h=>by obtain⟨v1,e,h⟩:=h; exact⟨v1,e,h.ext k⟩,fun _ _ _ k h=>h.ext k,fun _ _ _ _ h=>h,fun _ _ _ k h=>h.ext k,trivial⟩ (fun x=>⟨by intro u hC g F; exact(xZ (hrow.below hC) hi hfi he9).mono fun e w2 h=>⟨_,h.1,rfl,h.2⟩,by intro u hC g F; exact(Dj (hrow.below hC) (f:=i) (t:=e9) (by omega) (by omega) (by omega) hfi).mono fun e w2 h=>by obtain⟨v1,rfl,hx,hb⟩:=h; exact⟨_,rfl,⟨v1,by rw[Po (show e9≠i by omega)],(hx w0.heap.size _ (Ext.trans' S.E hC).size (Sx.On.ext hro hC)).mono fun j hj=>hj.imp_right (Nat.le_trans hC.size)⟩,hb⟩,trivial⟩) (fun ac u x E50 F S=>?_) (hk:=fun r=>⟨es,es,trivial,trivial,trivial,trivial,trivial⟩) (hl:=[(12,[67]),(13,[55]),(14,[55]),(15,[68])]) (hH:=fun x r=>⟨fun o ho ρ u hs hE hρ hV F=>by obtain⟨F67,-⟩:=F; obtain⟨v1,e1,h1⟩:=F67; exact Sx.qx ho hs [(67,.tuple #[v1,.slice (some ⟨gb,0+i*47,none⟩) (e9-i) (e9-i)])] (Sx.look1 ((hρ 67 (by decide) rfl).trans e1)) (.tuple #[v1,.slice (some ⟨gb,0+i*47,none⟩) (e9-i) (e9-i)]) (Sx.uz ho rfl rfl Ext.rfl' ⟨v1,rfl,h1⟩),fun o ho ρ u hs hE hρ hV F=>by obtain⟨RU,-⟩:=F; obtain⟨v1,e1,h1⟩:=RU; exact Sx.qx ho hs [(55,.tuple #[v1,.slice (some ⟨gb,0+i*47,none⟩) (e9-i) (e9-i)])] (Sx.look1 ((hρ 55 (by decide) rfl).trans e1)) (v1) (Sx.uz ho rfl rfl Ext.rfl' h1),fun o ho ρ u hs hE hρ hV F=>by obtain⟨RU,-⟩:=F; obtain⟨v1,e1,h1⟩:=RU; exact Sx.qx ho hs [(55,.tuple #[v1,.slice (some ⟨gb,0+i*47,none⟩) (e9-i) (e9-i)])] (Sx.look1 ((hρ 55 (by decide) rfl).trans e1)) (.slice (some ⟨gb,0+i*47,none⟩) (e9-i) (e9-i)) (Sx.uz ho rfl rfl Ext.rfl' rfl),fun o ho ρ u hs hE hρ hV F=>by obtain⟨F68,-⟩:=F; exact Sx.qx ho hs [(68,x 68)] (Sx.look1 (hρ 68 (by decide) rfl)) (x 68) (Sx.uz ho rfl rfl Ext.rfl' F68),trivial⟩)
     obtain⟨F67,RU,F68,F69,F6,-⟩:=F
     clear F67
     clear RU
     clear F68
     rw[F69]at S
     obtain⟨R,Y51⟩:=R.eH S (Sx.Stp.ext E50)
     have hcut:Sx.Ow w0.heap.size (Sx.Ob [(b2,e.cells),(b,s.cells)] []) (Sx.kD 43 47 aj.cells w0.heap.size (x 6) (s.ns.take i++s.ns.drop e9)) u:=F6.mono fun j hj=>hj.elim id fun h=>⟨Nat.le_trans q48 h,fun hm=>by have:=q49 j hm; omega⟩
     obtain⟨a7,c7,e7⟩:=(Sx.On.self hcut).1.shape
     rw[e7]at S hcut
     refine adr S 1 [] [(7,.slice (some ⟨gb,0+i*47,none⟩) (e9-i) (e9-i))] fun ac S=>aiF<|zU _ _<|wp_seq_k fun _ U3=>aiG fun _ XO=>adr S 3 [.mem 0 0] [(72,.bool ((e.kind)==2))] fun ac S=>aiF (XO _ _ ?_)
     refine aiI S (fun ad2=>?_) (fun ad2=>?_)
     ·refine aiG fun _ D9=>adr S 4 [] [(74,.slice a7 ((s.ns.take i++s.ns.drop e9).length) c7),(76,.pointer (some ⟨b,6,none⟩))] fun ac S=>aiW S 1 (off:=6) (v := .slice a7 ((s.ns.take i++s.ns.drop e9).length) c7) rfl fun u C56 S=>aiF<|D9 _ _<|aiG fun _ JC=>adr S 1 [] [(4,.int .i64 0)] fun ac S=>aiF<|JC _ _<|Vp.rt ?_
      obtain⟨R,Y58⟩:=R.eH S (Sx.Stp.chm C56 (by simp[Sx.vb]))
      refine aiH S Tryz.results50 ?_
      exact⟨0,⟨s.w,s.h,s.bg,a7,c7,s.ns.take i++s.ns.drop e9⟩,rfl,S.E,S.bx 1,Sx.On.and (Sx.Ow.dep (Sx.On.step hcut Y58)) (Sx.On.imp (Sx.Ow.dep (Sx.On.step Xc (Sx.Stp.trans Y51 Y58))) fun _ h=>DZ h i e9),DZ hf i e9,⟨by rw[show fO (keys s.ns) e.key = .ok (uq (keys s.ns) i e9) by unfold fO lY; rw[if_neg (show ¬e.key.kind=3 from fun h=>by have:=(show(e.key.kind=2)from by simpa[bC.key]using hc39); omega),if_neg (show ¬(e.key.kind=1)from by simpa[bC.key]using gu),if_pos (show(e.key.kind=2)from by simpa[bC.key]using hc39),show ji (keys s.ns) e.key.id=some i from hfk]; rw[he9]]; exact⟨rfl,Bd ..,by rw[if_neg (fun h=>by have:=(show(e.key.kind=2)from by simpa[bC.key]using hc39); simp only[bC.key]at this; omega)]⟩,rfl,rfl⟩⟩
     ·rw[hc39]at ad2; cases ad2
   ·rw[hc39]at uI; cases uI
  ·refine Vp.region<|adr S 2 [] [(50,.bool ((e.kind)==3))] fun ac S=>aiF (qo _ _ ?_)
   refine aiI S (fun zQ=>?_) (fun zQ=>?_)
   ·refine wp_seq_k fun _ acp=>aiG fun _ XI=>adr S 2 [] [(54,.bool (decide ((iY (keys s.ns) e.id)<0)))] fun ac S=>aiF (XI _ _ ?_)
    refine aiI S (fun ad3=>?_) (fun ad3=>?_)
    ·refine aiG fun _ acs=>adr S 1 [] [(4,.int .i64 8)] fun ac S=>aiF<|acs _ _<|Vp.rt ?_
     have hfk:=((nD s.ns e.id).resolve_right (fun⟨i,h,_⟩=>by have:=of_decide_eq_true ad3; omega)).2
     obtain⟨R,Y64⟩:=R.eH S (Sx.Stp.ext E7)
     refine aiH S Tryz.results50 ?_
     exact⟨8,s,rfl,S.E,S.bx 1,(es▸Sx.On.and (Sx.fV (fun _=>rfl) (R.own _ List.mem_cons_self) rfl rfl) (Sx.Ow.dep (Sx.On.step hnd (Sx.Stp.trans Y6 Y64)))),hf,⟨by rw[show fO (keys s.ns) e.key = .error 8 by unfold fO; rw[if_pos (show(e.key.kind=3)from by simpa[bC.key]using zQ),show ji (keys s.ns) e.key.id=none from hfk]],rfl,rfl⟩⟩
    ·refine wp_skip<|acp _ _<|wp_seq_k (fun _ aeE=>?_)
     obtain⟨i,hfi,hfk,hi⟩:=(nD s.ns e.id).resolve_left (fun h=>by have:=of_decide_eq_false ad3; omega)
     have hek:=qL (l:=keys s.ns) (i:=i) (by simpa using hi)
     rw[List.length_map]at hek
     obtain⟨R,Y66⟩:=R.eH S (Sx.Stp.ext E7)
     obtain⟨gb,rfl,hgn⟩:=Hf R (by omega)
     have hrw:=SA R rfl
     have Xc:=Sz (Sx.On.step hnd (Sx.Stp.trans Y6 Y66))
     have R:=Sx.Rw.pop R
     have hrow:=(Sx.On.self hrw).1
     have q67:=S.E.size
     have q68:=R.lt
     obtain⟨e9,he9⟩:∃z,z=eu (keys s.ns) i:=⟨_,rfl⟩
     rw[←he9]at hek
     have hro:=hrw
     refine aiV S 16 [(67,fun v w1=>∃v1,v = .tuple #[v1,.slice (some ⟨gb,0+i*47,none⟩) (e9-i) (e9-i)]∧Sx.On (fun j=>(w0.heap.size≤j∧j∉Sx.Ob [(b2,e.cells),(b,s.cells)] [])∨u.heap.size≤j) (Sx.kD 43 47 aj.cells w0.heap.size v1 (s.ns.take i++s.ns.drop e9)) w1),(55,fun v w1=>∃v1,v = .tuple #[v1,.slice (some ⟨gb,0+i*47,none⟩) (e9-i) (e9-i)]∧Sx.On (fun j=>(w0.heap.size≤j∧j∉Sx.Ob [(b2,e.cells),(b,s.cells)] [])∨u.heap.size≤j) (Sx.kD 43 47 aj.cells w0.heap.size v1 (s.ns.take i++s.ns.drop e9)) w1),(68,fun v w1=>Sx.On (fun j=>(w0.heap.size≤j∧j∉Sx.Ob [(b2,e.cells),(b,s.cells)] [])∨u.heap.size≤j) (Sx.kD 43 47 aj.cells w0.heap.size v (s.ns.take i++s.ns.drop e9)) w1),(69,fun v w1=>v = .slice (some ⟨gb,0+i*47,none⟩) (e9-i) (e9-i)),(6,fun v w1=>Sx.On (fun j=>(w0.heap.size≤j∧j∉Sx.Ob [(b2,e.cells),(b,s.cells)] [])∨u.heap.size≤j) (Sx.kD 43 47 aj.cells w0.heap.size v (s.ns.take i++s.ns.drop e9)) w1)] (fun r=>[.mem 1 6,.re 59 s.s (.slice (some ⟨gb,0,none⟩) s.ns.length cap),.mem 1 6,.re 64 s.s (.slice (some ⟨gb,0,none⟩) s.ns.length cap),.hand 55 [],.hand 68 [],.hand 69 [],.hand 6 []]) (fun x=>[.int .i64 ((e9:Nat):Int),x 67,x 55,x 68,x 69,x 6]) (fun x=>[(_,_,true,.int .i64 ((e9:Nat):Int),66),(_,_,true,x 67,67)]) [[],[]] (fun x=>[(6,x 6),(69,x 69)]) ⟨fun _ _ _ k h=>by obtain⟨v1,e,h⟩:=h; exact⟨v1,e,h.ext k⟩,fun _ _ _ k h=>by obtain⟨v1,e,h⟩:=h; exact⟨v1,e,h.ext k⟩,fun _ _ _ k h=>h.ext k,fun _ _ _ _ h=>h,fun _ _ _ k h=>h.ext k,trivial⟩ (fun x=>⟨by intro u hC g F; exact(xZ (hrow.below hC) hi hfi he9).mono fun e w2 h=>⟨_,h.1,rfl,h.2⟩,by intro u hC g F; exact(Dj (hrow.below hC) (f:=i) (t:=e9) (by omega) (by omega) (by omega) hfi).mono fun e w2 h=>by obtain⟨v1,rfl,hx,hb⟩:=h; exact⟨_,rfl,⟨v1,by rw[Po (show e9≠i by omega)],(hx w0.heap.size _ (Ext.trans' S.E hC).size (Sx.On.ext hro hC)).mono fun j hj=>hj.imp_right (Nat.le_trans hC.size)⟩,hb⟩,trivial⟩) (fun ac u x E69 F S=>?_) (hk:=fun r=>⟨es,es,trivial,trivial,trivial,trivial,trivial⟩) (hl:=[(12,[67]),(13,[55]),(14,[55]),(15,[68])]) (hH:=fun x r=>⟨fun o ho ρ u hs hE hρ hV F=>by obtain⟨F67,-⟩:=F; obtain⟨v1,e1,h1⟩:=F67; exact Sx.qx ho hs [(67,.tuple #[v1,.slice (some ⟨gb,0+i*47,none⟩) (e9-i) (e9-i)])] (Sx.look1 ((hρ 67 (by decide) rfl).trans e1)) (.tuple #[v1,.slice (some ⟨gb,0+i*47,none⟩) (e9-i) (e9-i)]) (Sx.uz ho rfl rfl Ext.rfl' ⟨v1,rfl,h1⟩),fun o ho ρ u hs hE hρ hV F=>by obtain⟨RU,-⟩:=F; obtain⟨v1,e1,h1⟩:=RU; exact Sx.qx ho hs [(55,.tuple #[v1,.slice (some ⟨gb,0+i*47,none⟩) (e9-i) (e9-i)])] (Sx.look1 ((hρ 55 (by decide) rfl).trans e1)) (v1) (Sx.uz ho rfl rfl Ext.rfl' h1),fun o ho ρ u hs hE hρ hV F=>by obtain⟨RU,-⟩:=F; obtain⟨v1,e1,h1⟩:=RU; exact Sx.qx ho hs [(55,.tuple #[v1,.slice (some ⟨gb,0+i*47,none⟩) (e9-i) (e9-i)])] (Sx.look1 ((hρ 55 (by decide) rfl).trans e1)) (.slice (some ⟨gb,0+i*47,none⟩) (e9-i) (e9-i)) (Sx.uz ho rfl rfl Ext.rfl' rfl),fun o ho ρ u hs hE hρ hV F=>by obtain⟨F68,-⟩:=F; exact Sx.qx ho hs [(68,x 68)] (Sx.look1 (hρ 68 (by decide) rfl)) (x 68) (Sx.uz ho rfl rfl Ext.rfl' F68),trivial⟩)
     obtain⟨F67,RU,F68,F69,F6,-⟩:=F
     clear F67
     clear RU
     clear F68
     rw[F69]at S
     obtain⟨R,Y70⟩:=R.eH S (Sx.Stp.ext E69)
     have hcut:Sx.Ow w0.heap.size (Sx.Ob [(b2,e.cells),(b,s.cells)] []) (Sx.kD 43 47 aj.cells w0.heap.size (x 6) (s.ns.take i++s.ns.drop e9)) u:=F6.mono fun j hj=>hj.elim id fun h=>⟨Nat.le_trans q67 h,fun hm=>by have:=q68 j hm; omega⟩
     obtain⟨a7,c7,e7⟩:=(Sx.On.self hcut).1.shape
     rw[e7]at S hcut
     refine adr S 1 [] [(7,.slice (some ⟨gb,0+i*47,none⟩) (e9-i) (e9-i))] fun ac S=>aiF<|aeE _ _<|wp_seq_k fun _ PG=>aiG fun _ XE=>adr S 3 [.mem 0 0] [(72,.bool ((e.kind)==2))] fun ac S=>aiF (XE _ _ ?_)
     refine aiI S (fun ad4=>?_) (fun ad4=>?_)
     ·rw[hc39]at ad4; cases ad4
     ·refine wp_skip<|PG _ _<|wp_seq_k fun _ XF=>aiG fun _ acu=>adr S 10 [.mem 0 2,.mem 0 2] [(86,.bool ((decide (e.index<0))||(decide ((((s.ns.take i++s.ns.drop e9).length:Nat):Int)<e.index))))] fun ac S=>aiF (acu _ _ ?_)
      refine aiI S (fun ad5=>?_) (fun ad5=>?_)
      ·refine aiG fun _ ahx=>adr S 1 [] [(4,.int .i64 6)] fun ac S=>aiF<|ahx _ _<|Vp.rt ?_
       refine aiH S Tryz.results50 ?_
       exact⟨6,s,rfl,S.E,S.bx 1,(es▸Sx.On.and (Sx.Ow.dep (Sx.On.step hrw Y70)) (Sx.Ow.dep (Sx.On.step Xc Y70))),hf,⟨by rw[show fO (keys s.ns) e.key = .error 6 by unfold fO; rw[if_pos (show(e.key.kind=3)from by simpa[bC.key]using zQ),show ji (keys s.ns) e.key.id=some i from hfk]; simp only; rw[←he9,if_pos (by have:=ad5; simp only[Bool.or_eq_true,decide_eq_true_eq]at this; rw[←Bd,List.length_map]; exact this)]],rfl,rfl⟩⟩
      ·refine wp_skip<|XF _ _<|aiG fun _ acD=>adr S 1 [] [(8,.slice none 0 0)] fun ac S=>aiF<|acD _ _<|wp_seq_k (fun _ ahy=>?_)
       have hrow:=(Sx.On.self (Sx.On.step hrw Y70)).1
       obtain⟨b80,o80,c80,aft,ahz,afu⟩:=Vp.aF hrow (fun _=>rfl) (i) hi
       simp only[Value.slice.injEq,Option.some.injEq,Addr.mk.injEq,true_and,and_true]at aft
       obtain⟨⟨rfl,rfl⟩,rfl⟩:=aft
       obtain⟨x0,hx0⟩:∃z,s.ns[i]'hi=z:=⟨_,rfl⟩
       rw[hx0,show 0+(i)*47=0+i*47+0*47 by omega]at afu
       have S:=S.view ahz afu hgn
       refine aiO S 7 [.mem 0 3,.idx 0 (e9-i),.mem 2 2] [] [(93,.int .i64 (IntKind.i64.wrap (e.depth-x0.depth)))] trivial (hk:=⟨(by omega),trivial⟩) fun ac u E81 S=>adr S 1 [] [(9,.int .i64 (IntKind.i64.wrap (e.depth-x0.depth)))] fun ac S=>aiF<|ahy _ _<|wp_seq_k fun _ PK=>aiG fun _ aav=>adr S 3 [] [(94,.slice (some ⟨gb,0+i*47,none⟩) (e9-i) (e9-i)),(95,.int .i64 (((e9-i):Nat):Int)),(96,.int .i64 0)] fun ac S=>aiF<|aav _ _<|wp_block ?_
       obtain⟨R,Y84⟩:=R.eH S (Sx.Stp.ext E81)
       have R:=OA R
       refine Vp.loop (ι:=Nat×Value) (fun p a' w'=>p.1≤(e9-i)∧(True)∧Sx.Rw w0 w' [(b2,e.cells),(b,s.cells)] [⟨43,47,p.2,p.1,((((s.ns.drop i).take (e9-i)).take p.1).map (mD (IntKind.i64.wrap (e.depth-x0.depth)))).flatMap aj.cells⟩]∧Sx.Ow w0.heap.size (Sx.Ob [(b2,e.cells),(b,s.cells)] [⟨43,47,p.2,p.1,((((s.ns.drop i).take (e9-i)).take p.1).map (mD (IntKind.i64.wrap (e.depth-x0.depth)))).flatMap aj.cells⟩]) (fun W=>∀n∈s.ns,n.qY w0.heap.size W) w'∧Sx.Ow w0.heap.size (Sx.Ob [(b2,e.cells),(b,s.cells)] [⟨43,47,p.2,p.1,((((s.ns.drop i).take (e9-i)).take p.1).map (mD (IntKind.i64.wrap (e.depth-x0.depth)))).flatMap aj.cells⟩]) (fun W=>Sx.kD 43 47 aj.cells w0.heap.size (.slice (some ⟨gb,0,none⟩) s.ns.length cap) s.ns W) w'∧Sx.Ow w0.heap.size (Sx.Ob [(b2,e.cells),(b,s.cells)] [⟨43,47,p.2,p.1,((((s.ns.drop i).take (e9-i)).take p.1).map (mD (IntKind.i64.wrap (e.depth-x0.depth)))).flatMap aj.cells⟩]) (fun W=>Sx.kD 43 47 aj.cells w0.heap.size (.slice a7 (s.ns.take i++s.ns.drop e9).length c7) (s.ns.take i++s.ns.drop e9) W) w'∧Sx.St w0 a' w' 158 [(0,.pointer (some ⟨b,0,none⟩)),(1,e.v),(3,.pointer (some ⟨b2,0,none⟩)),(4,.int .i64 0),(5,.int .i64 (iY (keys s.ns) e.id)),(6,.slice a7 ((s.ns.take i++s.ns.drop e9).length) c7),(7,.slice (some ⟨gb,0+i*47,none⟩) (e9-i) (e9-i)),(8,p.2),(9,.int .i64 (IntKind.i64.wrap (e.depth-x0.depth))),(20,.int .i64 e.kind),(94,.slice (some ⟨gb,0+i*47,none⟩) (e9-i) (e9-i)),(95,.int .i64 (((e9-i):Nat):Int)),(96,.int .i64 ((p.1:Nat):Int))] [(b2,e.cells),(b,s.cells)] []) (fun p=>(e9-i)-p.1) (0,.slice none 0 0) ⟨Nat.zero_le _,trivial,R,(Lm (Sx.On.step Xc (Sx.Stp.trans Y70 Y84))),(Lm (Sx.On.step hrw (Sx.Stp.trans Y70 Y84))),(Lm (Sx.On.step hcut Y84)),(S.sub [(0,.pointer (some ⟨b,0,none⟩)),(1,e.v),(3,.pointer (some ⟨b2,0,none⟩)),(4,.int .i64 0),(5,.int .i64 (iY (keys s.ns) e.id)),(6,.slice a7 ((s.ns.take i++s.ns.drop e9).length) c7),(7,.slice (some ⟨gb,0+i*47,none⟩) (e9-i) (e9-i)),(8,.slice none 0 0),(9,.int .i64 (IntKind.i64.wrap (e.depth-x0.depth))),(20,.int .i64 e.kind),(94,.slice (some ⟨gb,0+i*47,none⟩) (e9-i) (e9-i)),(95,.int .i64 (((e9-i):Nat):Int)),(96,.int .i64 ((0:Nat):Int))]).aK⟩ ?_
       rintro⟨k,v⟩ ac u hI
       try dsimp only at hI
       obtain⟨hk,hR,R,ab5,Z7,Z8,S⟩:=hI
       refine aiG fun _ XK=>adr S 1 [] [(97,.bool (decide (((k:Nat):Int)<(((e9-i):Nat):Int))))] fun ac S=>aiF<|XK _ _<|wp_seq_k (fun _ acw=>?_)
       refine aiI S (fun abC=>?_) (fun abC=>?_)
       ·refine wp_skip<|acw _ _<|wp_seq_k fun _ acy=>wp_block<|aiG (fun _ ahA=>?_)
        have hk3:k<e9-i:=by have:=of_decide_eq_true abC; omega
        have hk2:i+k<s.ns.length:=by omega
        have hrow:=(Sx.On.self Z7).1
        obtain⟨b90,o90,c90,hv90,ahB,afv⟩:=Vp.aF hrow (fun _=>rfl) (i+k) hk2
        simp only[Value.slice.injEq,Option.some.injEq,Addr.mk.injEq,true_and,and_true]at hv90
        obtain⟨⟨rfl,rfl⟩,rfl⟩:=hv90
        obtain⟨y,hy⟩:∃z,s.ns[i+k]'hk2=z:=⟨_,rfl⟩
        rw[hy,show 0+(i+k)*47=0+i*47+k*47 by omega]at afv
        have S:=S.view ahB afv hgn
        refine adr S 2 [.idx k (e9-i),.mem 2 0] [(99,y.v)] (hk:=⟨(by have:=of_decide_eq_true abC; omega),trivial⟩) fun ac S=>aiJ S 11 (Sx.L [.int .i64 0,.int .i64 0,.int .i64 0]++Sx.za++Sx.L [.slice none 0 0,.int .i64 0,.int .u8 0,.int .i64 0,.bool false,.bool false,.slice none 0 0,.int .i64 0,.slice none 0 0,.int .i64 0,.int .i64 0,.int .i64 0,.int .i64 0,.slice none 0 0,.int .i64 0,.slice none 0 0,.int .i64 0,.int .i64 0,.slice none 0 0,.int .i64 0]) fun ac u b91 E92 ahC S=>aiL S 0 (off:=0) (cs:=y.cells) rfl fun u C94 S=>aiF<|ahA _ _<|aiG fun _ acF=>adr S 5 [.mem 0 2] [(103,.int .i64 (IntKind.i64.wrap (y.depth+(IntKind.i64.wrap (e.depth-x0.depth))))),(104,.pointer (some ⟨b91,2,none⟩))] fun ac S=>aiW S 0 (off:=2) (v := .int .i64 (IntKind.i64.wrap (y.depth+(IntKind.i64.wrap (e.depth-x0.depth))))) rfl fun u C96 S=>aiF<|acF _ _<|Vp.region<|adr S 2 [.mem 0 0] [(105,v),(106,.agg (Sx.L [.int .i64 y.id,.int .i64 y.kind,.int .i64 (IntKind.i64.wrap (y.depth+(IntKind.i64.wrap (e.depth-x0.depth))))]++y.t.cells++Sx.L [y.cs,.int .i64 y.aO,.int .u8 (y.eY.toNat:Int),.int .i64 y.blend,.bool y.isolated,.bool y.dN,y.ps,.int .i64 y.aY,y.fs]++y.style.cells++Sx.L [y.ss]++y.img.cells++Sx.L [.int .i64 y.cZ]).toArray)] fun ac S=>Sx.news S 107 1 (Sx.L [.int .i64 y.id,.int .i64 y.kind,.int .i64 (IntKind.i64.wrap (y.depth+(IntKind.i64.wrap (e.depth-x0.depth))))]++y.t.cells++Sx.L [y.cs,.int .i64 y.aO,.int .u8 (y.eY.toNat:Int),.int .i64 y.blend,.bool y.isolated,.bool y.dN,y.ps,.int .i64 y.aY,y.fs]++y.style.cells++Sx.L [y.ss]++y.img.cells++Sx.L [.int .i64 y.cZ]) (fun ac u b97 E98 ahD S=>?_)
        obtain⟨R,ad6⟩:=R.eH S (Sx.Stp.trans (Sx.Stp.NJ E92 ahC) (Sx.Stp.trans (Sx.Stp.chm C94 (by simp[Sx.vb])) (Sx.Stp.trans (Sx.Stp.chm C96 (by simp[Sx.vb])) (Sx.Stp.NJ E98 ahD))))
        refine Sx.app S R 0 108 rfl BR (Sx.Fv (m:=1) (k:=47) (A:=(mD (IntKind.i64.wrap (e.depth-x0.depth)) y).cells) (S.bx 0)) (by show k+1≤9223372036854775807; omega) (by show(k+1)*656≤140737488355328; omega) fun ac u abD ad7 R S=>adr S 1 [] [(8,abD)] fun ac S=>aiF<|acy _ _<|Vp.region<|adr S 2 [.re 109 (.int .i64 (IntKind.i64.wrap (((k:Nat):Int)+1))) (.int .i64 (((k+1):Nat):Int))] [(96,.int .i64 (((k+1):Nat):Int))] (hk:=⟨aiR (by omega),trivial⟩) fun ac S=>aiF ?_
        have S:=S.uD 2
        obtain⟨R,ad8⟩:=R.eH S (Sx.Stp.Fq 2)
        show ∃i',_∧_
        exact⟨((k+1),abD),⟨by omega,trivial,R.as (congrArg (fun xs=>[(⟨43,47,abD,k+1,xs⟩:Sx.Row)]) (Z5 hk2 hy hk3)),(Sx.On.step ab5 (Sx.Stp.trans ad6 (Sx.Stp.trans ad7 ad8))),(Sx.On.step Z7 (Sx.Stp.trans ad6 (Sx.Stp.trans ad7 ad8))),(Sx.On.step Z8 (Sx.Stp.trans ad6 (Sx.Stp.trans ad7 ad8))),(S.sub [(0,.pointer (some ⟨b,0,none⟩)),(1,e.v),(3,.pointer (some ⟨b2,0,none⟩)),(4,.int .i64 0),(5,.int .i64 (iY (keys s.ns) e.id)),(6,.slice a7 ((s.ns.take i++s.ns.drop e9).length) c7),(7,.slice (some ⟨gb,0+i*47,none⟩) (e9-i) (e9-i)),(8,abD),(9,.int .i64 (IntKind.i64.wrap (e.depth-x0.depth))),(20,.int .i64 e.kind),(94,.slice (some ⟨gb,0+i*47,none⟩) (e9-i) (e9-i)),(95,.int .i64 (((e9-i):Nat):Int)),(96,.int .i64 (((k+1):Nat):Int))]).aK⟩,by show _-_<_-_; omega⟩
       ·refine wp_exit<|PK _ _ ?_
        obtain rfl:k=e9-i:=by have:=of_decide_eq_false abC; omega
        have hmv:=Sx.On.self (Sx.rJ (f:=aj.cells) (L:=((s.ns.drop i).take (e9-i)).map (mD (IntKind.i64.wrap (e.depth-x0.depth)))) (fun _=>rfl) (R.own _ List.mem_cons_self) (by simp; omega) (by rw[List.take_of_length_le (by simp; omega)]))
        have hct:=(Sx.On.self Z8).1
        have hix:0≤e.index∧e.index≤((s.ns.take i++s.ns.drop e9).length:Int):=by have:=ad5; simp only[Bool.or_eq_false_iff,decide_eq_false_iff_not]at this; omega
        obtain⟨ax,hat⟩:=zK hix.1
        refine Vp.region<|adr S 5 [.mem 0 2] [(110,.pointer (some ⟨b,0,none⟩)),(111,.slice a7 ((s.ns.take i++s.ns.drop e9).length) c7),(113,.int .i64 e.index),(114,v)] (fun ac S=>?_)
        have afw:=S.E.size
        have ahE:=R.lt
        refine aiQ S (some 115) (AU hct hmv (i:=ax) (by omega) (by simp; omega) (by simp; omega) hat) ?_
        rintro r u ⟨vi,rfl,hoi,afx⟩
        obtain⟨a9,c9,rfl⟩:=Sx.kW hoi
        refine⟨_,rfl,afx,fun ac S=>?_⟩
        have hnw:=Sx.fV (f:=aj.cells) (fun _=>rfl) hoi rfl rfl
        obtain⟨R,ahF⟩:=R.eH S (Sx.Stp.ext afx)
        have ahG:=Sx.On.imp (Sx.iE.ow hnw afw ahE) fun _ h=>h.le afw
        refine adr S 2 [] [(117,.pointer (some ⟨b,6,none⟩))] fun ac S=>aiW S 1 (off:=6) (v := .slice a9 (((s.ns.take i++s.ns.drop e9).take ax++((s.ns.drop i).take (e9-i)).map (mD (IntKind.i64.wrap (e.depth-x0.depth)))++(s.ns.take i++s.ns.drop e9).drop ax).length) c9) rfl fun u ahH S=>aiF<|dP _ _<|aiG fun _ XR=>adr S 1 [] [(4,.int .i64 0)] fun ac S=>aiF<|XR _ _<|Vp.rt ?_
        obtain⟨R,afy⟩:=R.eH S (Sx.Stp.chm ahH (by simp[Sx.vb]))
        refine aiH S Tryz.results50 ?_
        exact⟨0,⟨s.w,s.h,s.bg,a9,c9,(s.ns.take i++s.ns.drop e9).take ax++((s.ns.drop i).take (e9-i)).map (mD (IntKind.i64.wrap (e.depth-x0.depth)))++(s.ns.take i++s.ns.drop e9).drop ax⟩,rfl,S.E,S.bx 1,Sx.On.and (Sx.Ow.dep (Sx.On.step ahG afy)) (Sx.On.imp (Sx.Ow.dep (Sx.On.step ab5 (Sx.Stp.trans ahF afy))) fun _ h=>DY (DZ h i e9) (W9 h i (e9-i)) ax ax),DY (DZ hf i e9) (Xa hf i (e9-i)) ax ax,⟨by rw[show fO (keys s.ns) e.key = .ok (Gi (uq (keys s.ns) i e9) ax ((BP (keys s.ns) i e9).map fun n=>n.moved x0.depth e.depth)) by unfold fO; rw[if_pos (show(e.key.kind=3)from by simpa[bC.key]using zQ),show ji (keys s.ns) e.key.id=some i from hfk]; simp only; rw[←he9,if_neg (by rw[←Bd,List.length_map,show e.key.index=e.index from rfl]; omega),show e.key.index.toNat=ax from by rw[show e.key.index=e.index from rfl,hat]; rfl,dK hi,hx0]; rfl]; exact⟨rfl,by rw[Pq,Bd,WZ,ZX],by rw[if_neg (fun h=>by have:=(show(e.key.kind=3)from by simpa[bC.key]using zQ); simp only[bC.key]at this; omega)]⟩,rfl,rfl⟩⟩
   ·refine aiG fun _ SH=>adr S 2 [] [(118,.bool ((e.kind)==4))] fun ac S=>aiF (SH _ _ ?_)
    refine aiI S (fun hc113=>?_) (fun hc113=>?_)
    ·refine wp_seq_k (fun _ afz=>?_)
     obtain⟨R,ad9⟩:=R.eH S (Sx.Stp.ext E7)
     have hrow:=(Sx.On.self (Sx.rJ (f:=aj.cells) (L:=s.ns) (fun _=>rfl) (R.own _ List.mem_cons_self) rfl rfl))
     refine aiO S 8 [.mem 1 6,.re 123 s.s (.slice a s.ns.length cap),.mem 0 4] [(_,_,true,.int .i64 (iY (keys s.ns) e.node.id))] [(127,.int .i64 (iY (keys s.ns) e.node.id))] ⟨fun u hC g=>zO (id:=e.node.id) (hrow.below hC),trivial⟩ (hk:=⟨es,trivial⟩) fun ac u afA S=>adr S 1 [] [(5,.int .i64 (iY (keys s.ns) e.node.id))] fun ac S=>aiF<|afz _ _<|wp_seq_k fun _ afB=>aiG fun _ afC=>adr S 2 [] [(129,.bool (decide ((iY (keys s.ns) e.node.id)<0)))] fun ac S=>aiF (afC _ _ ?_)
     refine aiI S (fun Z9=>?_) (fun Z9=>?_)
     ·refine aiG fun _ afD=>adr S 1 [] [(4,.int .i64 8)] fun ac S=>aiF<|afD _ _<|Vp.rt ?_
      have hfk:=((nD s.ns e.node.id).resolve_right (fun⟨i,h,_⟩=>by have:=of_decide_eq_true Z9; omega)).2
      obtain⟨R,ahI⟩:=R.eH S (Sx.Stp.ext afA)
      refine aiH S Tryz.results50 ?_
      exact⟨8,s,rfl,S.E,S.bx 1,(es▸Sx.On.and (Sx.fV (fun _=>rfl) (R.own _ List.mem_cons_self) rfl rfl) (Sx.Ow.dep (Sx.On.step hnd (Sx.Stp.trans Y6 (Sx.Stp.trans ad9 ahI))))),hf,⟨by rw[show fO (keys s.ns) e.key = .error 8 by unfold fO lY; rw[if_neg (show ¬(e.key.kind=3)from by simpa[bC.key]using zQ),if_neg (show ¬(e.key.kind=1)from by simpa[bC.key]using gu),if_neg (show ¬(e.key.kind=2)from by simpa[bC.key]using hc39),if_neg (show ¬(e.key.kind=3)from by simpa[bC.key]using zQ),if_pos (show(e.key.kind=4)from by simpa[bC.key]using hc113),show ji (keys s.ns) e.key.node.id=none from hfk]],rfl,rfl⟩⟩
     ·refine wp_skip<|afB _ _<|wp_seq_k fun _ afE=>wp_seq_k (fun _ afF=>?_)
      obtain⟨i,hfi,hfk,hi⟩:=(nD s.ns e.node.id).resolve_left (fun h=>by have:=of_decide_eq_false Z9; omega)
      obtain⟨R,afG⟩:=R.eH S (Sx.Stp.ext afA)
      obtain⟨gb,rfl,hgn⟩:=Hf R (by omega)
      have hrow:=(Sx.On.self (Sx.rJ (f:=aj.cells) (L:=s.ns) (fun _=>rfl) (R.own _ List.mem_cons_self) rfl rfl))
      obtain⟨aiC,aiD,aiE,ab6,afH,ab7⟩:=Vp.aF hrow (fun _=>rfl) (i) hi
      simp only[Value.slice.injEq,Option.some.injEq,Addr.mk.injEq,true_and,and_true]at ab6
      obtain⟨⟨rfl,rfl⟩,rfl⟩:=ab6
      obtain⟨x0,hx0⟩:∃z,s.ns[i]'hi=z:=⟨_,rfl⟩
      rw[hx0,show 0+(i)*47=0+i*47 by omega]at ab7
      have S:=S.view afH ab7 hgn
      refine aiO S 12 [.mem 0 6,.mem 1 6,.re 136 s.s (.slice (some ⟨gb,0,none⟩) s.ns.length cap),.re 137 (.int .i64 (iY (keys s.ns) e.node.id)) (.int .i64 ((i:Nat):Int)),.idx i s.ns.length,.mem 2 2] [] [(141,.bool ((e.node.depth) != x0.depth))] trivial (hk:=⟨es,(congrArg _ hfi),hi,trivial⟩) fun ac u afI S=>aiF (afF _ _ ?_)
      refine aiI S (fun aac=>?_) (fun aac=>?_)
      ·refine aiG fun _ afJ=>adr S 1 [] [(4,.int .i64 2)] fun ac S=>aiF<|afJ _ _<|Vp.rt ?_
       obtain⟨R,ahJ⟩:=R.eH S (Sx.Stp.ext afI)
       refine aiH S Tryz.results50 ?_
       exact⟨2,s,rfl,S.E,S.bx 1,(es▸Sx.On.and (Sx.fV (fun _=>rfl) (R.own _ List.mem_cons_self) rfl rfl) (Sx.Ow.dep (Sx.On.step hnd (Sx.Stp.trans Y6 (Sx.Stp.trans ad9 (Sx.Stp.trans afG ahJ)))))),hf,⟨by rw[show fO (keys s.ns) e.key = .error 2 by unfold fO lY; rw[if_neg (show ¬(e.key.kind=3)from by simpa[bC.key]using zQ),if_neg (show ¬(e.key.kind=1)from by simpa[bC.key]using gu),if_neg (show ¬(e.key.kind=2)from by simpa[bC.key]using hc39),if_neg (show ¬(e.key.kind=3)from by simpa[bC.key]using zQ),if_pos (show(e.key.kind=4)from by simpa[bC.key]using hc113),show ji (keys s.ns) e.key.node.id=some i from hfk]; simp only; rw[dK hi,hx0,if_pos (by simpa[bC.key,aj.key]using aac)]],rfl,rfl⟩⟩
      ·refine wp_skip<|afE _ _ ?_
       obtain⟨R,ahK⟩:=R.eH S (Sx.Stp.ext afI)
       have afK:=S.E.size
       have ahL:=R.lt
       refine aiV S 9 [(149,fun v w1=>∃m:aj,v=m.v∧m.cp u.heap.size w1∧m.strip=e.node.strip)] (fun r=>[.mem 1 6,.re 145 s.s (.slice (some ⟨gb,0,none⟩) s.ns.length cap),.re 146 (.int .i64 (iY (keys s.ns) e.node.id)) (.int .i64 ((i:Nat):Int)),.mem 0 4,.idx i s.ns.length]) (fun x=>[x 149]) (fun x=>[(_,_,true,x 149,149)]) [[]] (fun x=>[(149,x 149),(150,.pointer (some ⟨gb,0+i*47,none⟩))]) ⟨fun _ _ _ k h=>by obtain⟨m,e,h,q⟩:=h; exact⟨m,e,h.ext k,q⟩,trivial⟩ (fun x=>⟨by intro u hC g F; exact(clone_any (he.2.2.2.2.1.below (Ext.trans' S.E hC)) hel).mono fun e w2 h=>by obtain⟨m,rfl,hx,hs,hb⟩:=h; exact⟨_,rfl,⟨m,rfl,JO hx hC.size,hs⟩,hb⟩,trivial⟩) (fun ac u x ahM F S=>?_) (hk:=fun r=>⟨es,(congrArg _ hfi),hi,trivial⟩)
       obtain⟨ahN,-⟩:=F
       obtain⟨m,em,hm,hms⟩:=ahN
       rw[em]at S
       obtain⟨R,ahO⟩:=R.eH S (Sx.Stp.ext ahM)
       have ahP:=Sx.On.imp (Sx.iE.ow hm afK ahL) fun _ h=>BU h afK
       refine Sx.Mc S R 0 (off:=0+i*47) (cs:=m.cells) rfl rfl (by show 0+i*47+47≤_; rw[Sx.jh (f:=aj.cells) (k:=47) (fun _=>rfl)]; omega) (fun u afL R S=>?_)
       have R:=R.as (congrArg (fun xs=>[(⟨43,47,.slice (some ⟨gb,0,none⟩) s.ns.length cap,s.ns.length,xs⟩:Sx.Row)]) (ZY hi m))
       refine aiF<|dP _ _<|aiG fun _ afM=>adr S 1 [] [(4,.int .i64 0)] fun ac S=>aiF<|afM _ _<|Vp.rt ?_
       refine aiH S Tryz.results50 ?_
       exact⟨0,⟨s.w,s.h,s.bg,s.nsa,s.nsc,s.ns.set i m⟩,rfl,S.E,(by rw[Xb]; exact S.bx 1),Sx.On.and (by show Sx.On _ (Sx.kD _ _ _ _ (aS.s ⟨s.w,s.h,s.bg,s.nsa,s.nsc,s.ns.set i m⟩) (s.ns.set i m)) _; rw[ab4,es]; exact Sx.fV (fun _=>rfl) (R.own _ List.mem_cons_self) (by simp) rfl) (Sx.On.imp (Sx.On.and (Sx.Ow.dep (Sx.On.step hnd (Sx.Stp.trans Y6 (Sx.Stp.trans ad9 (Sx.Stp.trans afG (Sx.Stp.trans ahK (Sx.Stp.trans ahO afL))))))) (Sx.Ow.dep (Sx.On.step ahP afL))) fun _ h=>UF h.1 h.2 i),UF hf (Gu ⟨he.2.2.2.2.2,hel⟩ hms) i,⟨by rw[show fO (keys s.ns) e.key = .ok ((keys s.ns).set i e.node.key) by unfold fO lY; rw[if_neg (show ¬(e.key.kind=3)from by simpa[bC.key]using zQ),if_neg (show ¬(e.key.kind=1)from by simpa[bC.key]using gu),if_neg (show ¬(e.key.kind=2)from by simpa[bC.key]using hc39),if_neg (show ¬(e.key.kind=3)from by simpa[bC.key]using zQ),if_pos (show(e.key.kind=4)from by simpa[bC.key]using hc113),show ji (keys s.ns) e.key.node.id=some i from hfk]; simp only; rw[dK hi,hx0,if_neg (by simpa[bC.key,aj.key]using aac)]; rfl]; exact⟨rfl,by simp[keys,List.map_set,Gq hms],by rw[if_neg (fun h=>by have:=(show(e.key.kind=4)from by simpa[bC.key]using hc113); simp only[bC.key]at this; omega)]⟩,rfl,rfl⟩⟩
    ·refine aiG fun _ afN=>adr S 2 [] [(151,.bool ((e.kind)==5))] fun ac S=>aiF (afN _ _ ?_)
     refine aiI S (fun aad=>?_) (fun aad=>?_)
     ·refine Vp.region<|adr S 5 [.mem 0 51] [(155,.agg e.color.cells.toArray),(157,.pointer (some ⟨b,2,none⟩))] fun ac S=>aiL S 1 (off:=2) (cs:=e.color.cells) rfl fun u ahQ S=>aiF<|dP _ _<|aiG fun _ afO=>adr S 1 [] [(4,.int .i64 0)] fun ac S=>aiF<|afO _ _<|Vp.rt ?_
      obtain⟨R,ahR⟩:=R.eH S (Sx.Stp.trans (Sx.Stp.ext E7) (Sx.Stp.chm ahQ (by simp[Sx.vb])))
      refine aiH S Tryz.results50 ?_
      exact⟨0,⟨s.w,s.h,e.color,s.nsa,s.nsc,s.ns⟩,rfl,S.E,S.bx 1,(es▸Sx.On.and (Sx.fV (fun _=>rfl) (R.own _ List.mem_cons_self) rfl rfl) (Sx.Ow.dep (Sx.On.step hnd (Sx.Stp.trans Y6 ahR))):kY _ s.s _ _),hf,⟨by rw[show fO (keys s.ns) e.key = .ok (keys s.ns) by unfold fO lY; rw[if_neg (show ¬(e.key.kind=3)from by simpa[bC.key]using zQ),if_neg (show ¬(e.key.kind=1)from by simpa[bC.key]using gu),if_neg (show ¬(e.key.kind=2)from by simpa[bC.key]using hc39),if_neg (show ¬(e.key.kind=3)from by simpa[bC.key]using zQ),if_neg (show ¬(e.key.kind=4)from by simpa[bC.key]using hc113)]]; exact⟨rfl,rfl,by rw[if_pos (by simpa using aad)]⟩,rfl,rfl⟩⟩
     ·refine wp_skip<|dP _ _<|aiG fun _ afP=>adr S 1 [] [(4,.int .i64 0)] fun ac S=>aiF<|afP _ _<|Vp.rt ?_
      obtain⟨R,ahS⟩:=R.eH S (Sx.Stp.ext E7)
      refine aiH S Tryz.results50 ?_
      exact⟨0,s,rfl,S.E,S.bx 1,(es▸Sx.On.and (Sx.fV (fun _=>rfl) (R.own _ List.mem_cons_self) rfl rfl) (Sx.Ow.dep (Sx.On.step hnd (Sx.Stp.trans Y6 ahS)))),hf,⟨by rw[show fO (keys s.ns) e.key = .ok (keys s.ns) by unfold fO lY; rw[if_neg (show ¬(e.key.kind=3)from by simpa[bC.key]using zQ),if_neg (show ¬(e.key.kind=1)from by simpa[bC.key]using gu),if_neg (show ¬(e.key.kind=2)from by simpa[bC.key]using hc39),if_neg (show ¬(e.key.kind=3)from by simpa[bC.key]using zQ),if_neg (show ¬(e.key.kind=4)from by simpa[bC.key]using hc113)]]; exact⟨rfl,rfl,by rw[if_neg (by simpa using aad)]⟩,rfl,rfl⟩⟩
end Go.Proofs.YtfmkkemfhjkajaaGreatDoor
