/- Copies of nodes in new memory: package node's paints and Clone. -/
import Derived.Test.YtfmkkemfhjkajaaGreatDoorCln36
set_option maxHeartbeats 3200000
set_option maxRecDepth 100000
namespace Go.Proofs.YtfmkkemfhjkajaaGreatDoor
open Go.RowKit
variable{α:Type}{K:Nat}
set_option linter.unusedVariables false
theorem aaF{k:Nat}{f:α→List Value}{M q:List α}{x:α}{i:Nat}(hM:M.length=i)(hf:∀x,(f x).length=k):(((M++x::q).flatMap f).drop (0+i*k)).take (f x).length=f x:=by
 rw[List.flatMap_append,List.drop_append,Sx.jh hf,hM,List.drop_eq_nil_of_le (by rw[Sx.jh hf,hM]; omega),show 0+i*k-i*k=0 by omega,List.nil_append,List.drop_zero,List.flatMap_cons,List.take_left]
theorem Eu{k:Nat}{f:α→List Value}{M q:List α}{B cs:List Value}{i o:Nat}(hM:M.length=i)(hf:∀x,(f x).length=k)(ho:o+cs.length≤B.length):Sx.spl (M.flatMap f++(B++q.flatMap f)) (0+i*k+o) cs=M.flatMap f++(Sx.spl B o cs++q.flatMap f):=by
 have hl:(M.flatMap f).length=i*k:=by rw[Sx.jh hf,hM]
 unfold Sx.spl
 rw[List.take_append,List.drop_append,hl,List.take_of_length_le (by omega),List.drop_eq_nil_of_le (by omega),List.nil_append,show 0+i*k+o-i*k=o by omega,show 0+i*k+o+cs.length-i*k=o+cs.length by omega,List.take_append_of_le_length (by omega),List.drop_append_of_le_length ho]
 simp only[List.append_assoc]
theorem DR{A cs:List Value}{o:Nat}(h:o+cs.length≤A.length):(Sx.spl A o cs).length=A.length:=by unfold Sx.spl; simp; omega
def ak.re(x:ak)(a1:Option Addr)(c1:Nat)(a2:Option Addr)(c2:Nat)(t:aV):ak:=⟨x.kind,x.color,x.p0,x.p1,x.bG,a1,c1,x.stops,x.spread,⟨x.img.w,x.img.h,a2,c2,x.img.l⟩,x.cZ,t⟩
theorem XZ{B:Nat→Prop}{base:Nat}{w w1:World}{x:ak}{a1 a2:Option Addr}{c1 c2:Nat}{t:aV}(hx:x.ok w1)(h1:Sx.On B (Sx.kD 155 5 fK.cells base (.slice a1 x.stops.length c1) x.stops) w)(h2:Sx.On B (Sx.kD 122 4 dI.cells base (.slice a2 x.img.l.length c2) x.img.l) w)(h3:Sx.On B (fun w=>t.qY base w) w):Sx.On B (fun w=>(x.re a1 c1 a2 c2 t).qY base w) w:=
 Sx.On.imp (Sx.On.and h1 (Sx.On.and h2 h3)) fun _ h=>⟨⟨hx.1,hx.2.1,hx.2.2.1,hx.2.2.2.1,h.1.1,hx.2.2.2.2.2.1,hx.2.2.2.2.2.2.1,⟨hx.2.2.2.2.2.2.2.1.1,hx.2.2.2.2.2.2.2.1.2.1,h.2.1.1⟩,hx.2.2.2.2.2.2.2.2.1,h.2.2.ok⟩,h.1.2,h.2.1.2,h.2.2⟩
theorem X0{x:ak}{a1 a2:Option Addr}{c1 c2:Nat}{t:aV}:Sx.spl (Sx.spl (Sx.spl x.cells 10 [.slice a1 x.stops.length c1]) 14 [.slice a2 x.img.l.length c2]) 16 t.cells=(x.re a1 c1 a2 c2 t).cells:=rfl
def ak.lim(p:ak):Prop:=p.stops.length≤10000000∧p.img.l.length≤10000000∧p.t.lim
theorem X3{P:ak→Prop}{M:List ak}{x:ak}(h:∀p∈M,P p)(hx:P x):∀p∈M++[x],P p:=fun p hp=>by
 rcases List.mem_append.1 hp with hp | hp
 ·exact h p hp
 ·rw[List.mem_singleton.1 hp]; exact hx
theorem Qa{l M:List ak}{k:Nat}{x y:ak}(hk:k<l.length)(hx:l[k]=x)(h:M.map ak.strip=(l.take k).map ak.strip)(hy:y.strip=x.strip):(M++[y]).map ak.strip=(l.take (k+1)).map ak.strip:=by
 rw[List.take_succ_eq_append_getElem hk,List.map_append,List.map_append,h,hx]; simp[hy]
theorem JL{w:World}{v:Value}{L:List ak}(h:aT 40 ak.cells w v L):fQ w 40 v L.length (L.flatMap ak.cells):=Sx.pI h (fun _=>rfl) fun _=>rfl
theorem JM{w:World}{v:Value}{L:List ak}(h:aT 40 ak.cells w v L)(hl:L.length≤10000000) :
  Calls Tryz.prog 142 #[v] w fun e w'=>∃v',e = .returned v'∧w'.ownsRow w.heap.size 99 40 v' L.length (L.flatMap ak.cells)∧Ext w w':=by
 obtain⟨a,c,rfl⟩:=h.shape
 cases a with
 | none =>
  obtain rfl:L=[]:=qO h
  obtain rfl:=jQ h
  refine aiK Tryz.func142 Tryz.ntmps142 fun ac S=>aiG fun _ aU=>adr S 1 [] [(2,.slice none 0 0)] fun ac S=>aiF<|aU _ _<|wp_seq_k fun _ fE=>aiG fun _ gW=>adr S 2 [] [(4,.bool true)] fun ac S=>aiF<|gW _ _<|aiN S<|aiG fun _ lG=>adr S 1 [] [(2,.slice none 0 0)] fun ac S=>aiF<|lG _ _<|Vp.rt ?_
  refine aiH S Tryz.results142 ?_
  exact⟨_,rfl,⟨by simp,.inl ⟨rfl,rfl⟩⟩,S.E⟩
 | some p =>
  refine aiK Tryz.func142 Tryz.ntmps142 fun ac S=>aiG fun _ aU=>adr S 1 [] [(2,.slice none 0 0)] fun ac S=>aiF<|aU _ _<|wp_seq_k fun _ fE=>aiG fun _ gW=>adr S 2 [] [(4,.bool false)] fun ac S=>aiF<|gW _ _<|aiY S<|wp_skip<|fE _ _<|aiG (fun _ lG=>?_)
  have R:=Sx.Rw.nil S
  refine Sx.newRow S R 5 0 99 40 [] fun ac u v5 E6 X7 R S=>adr S 1 [] [(6,.slice (some p) L.length c)] fun ac S=>Sx.app S R 0 7 rfl aaC (JL (h.below S.E)) (by show 0+L.length≤9223372036854775807; omega) (by show(0+L.length)*_≤140737488355328; omega) fun ac u v8 X9 R S=>adr S 1 [] [(2,v8)] fun ac S=>aiF<|lG _ _<|Vp.rt ?_
  refine aiH S Tryz.results142 ?_
  have ho:=R.own _ List.mem_cons_self
  refine⟨_,rfl,?_,S.E⟩
  simpa using ho
theorem L8{w:World}{B:Nat}{e:TypeId}{k n c:Nat}{a:Option Addr}{xs:List Value}(h:w.ownsRow B e k (.slice a n c) n xs)(hn:0<n):∃g,a=some ⟨g,0,none⟩:=by
 obtain⟨h1,⟨e,h0⟩ | ⟨g,cap,cur,e,_⟩⟩:=h
 ·omega
 ·simp only[Value.slice.injEq]at e; exact⟨g,e.1⟩
theorem Ew{w:World}{v:Value}{l:List ak}(h:iV w v l)(hl:l.length≤10000000)(hl2:∀p∈l,p.lim) :
  Calls Tryz.prog 100 #[v] w fun e w'=>∃v' l',e = .returned v'∧qZ w.heap.size v' l' w'∧l'.map ak.strip=l.map ak.strip∧Ext w w':=by
 obtain⟨a,cap,rfl⟩:=h.1.shape
 refine aiK Tryz.func100 Tryz.ntmps100 fun ac S=>aiG fun _ aU=>adr S 1 [] [(2,.slice none 0 0)] fun ac S=>aiF<|aU _ _<|aiG fun _ fE=>adr S 1 [] [(6,.slice a l.length cap)] (fun ac S=>?_)
 have R:=Sx.Rw.nil S
 have q0:=S.E.size
 refine aiQ S (some 7) (JM (h.1.below S.E) hl) ?_
 rintro e u ⟨v,rfl,ho,E1⟩
 refine⟨_,rfl,E1,fun ac S=>?_⟩
 have R:=(R.ext E1).add (r:=⟨99,40,v,l.length,l.flatMap ak.cells⟩) ho R.lt q0
 obtain⟨a1,c1,rfl⟩:=Sx.kW ho
 refine adr S 1 [] [(3,.slice a1 l.length c1)] fun ac S=>aiF<|fE _ _<|wp_seq_k fun _ gW=>aiG fun _ lG=>adr S 3 [] [(9,.int .i64 ((l.length:Nat):Int)),(10,.int .i64 0)] fun ac S=>aiF<|lG _ _<|wp_block ?_
 refine Vp.loop (ι:=Nat×List ak) (fun p a' w'=>p.1≤l.length∧(p.2.map ak.strip=(l.take p.1).map ak.strip)∧Sx.Rw w w' [] [⟨99,40,.slice a1 l.length c1,l.length,(p.2++l.drop p.1).flatMap ak.cells⟩]∧Sx.Ow w.heap.size (Sx.Ob [] [⟨99,40,.slice a1 l.length c1,l.length,(p.2++l.drop p.1).flatMap ak.cells⟩]) (fun W=>∀z∈p.2,z.qY w.heap.size W) w'∧Sx.St w a' w' 44 [(0,.slice a l.length cap),(2,.slice none 0 0),(3,.slice a1 l.length c1),(9,.int .i64 ((l.length:Nat):Int)),(10,.int .i64 ((p.1:Nat):Int))] [] []) (fun p=>l.length-p.1) (0,[]) ⟨Nat.zero_le _,rfl,R,(fun _ _ _ z hz=>by cases hz),(S.sub [(0,.slice a l.length cap),(2,.slice none 0 0),(3,.slice a1 l.length c1),(9,.int .i64 ((l.length:Nat):Int)),(10,.int .i64 ((0:Nat):Int))]).aK⟩ ?_
 rintro⟨k,M⟩ ac u hI
 try dsimp only at hI
 obtain⟨hk,hR,R,H9,S⟩:=hI
 refine aiG fun _ bV=>adr S 1 [] [(11,.bool (decide (((k:Nat):Int)<((l.length:Nat):Int))))] fun ac S=>aiF<|bV _ _<|wp_seq_k (fun _ iK=>?_)
 refine aiI S (fun kV=>?_) (fun kV=>?_)
 ·refine wp_skip<|iK _ _<|wp_seq_k fun _ dP=>wp_block<|aiG fun _ gB=>adr S 2 [] [(4,.int .i64 ((k:Nat):Int))] fun ac S=>aiF<|gB _ _<|aiG (fun _ dV=>?_)
  have hk:k<l.length:=by have:=of_decide_eq_true kV; omega
  obtain⟨y,hx⟩:∃y,l[k]=y:=⟨_,rfl⟩
  have hd:l.drop k=y::l.drop (k+1):=by rw[←hx]; exact List.drop_eq_getElem_cons hk
  have hM:M.length=k:=by have:=congrArg List.length hR; simp at this; omega
  obtain⟨g,rfl⟩:=L8 (R.own _ List.mem_cons_self) (by show 0<l.length; omega)
  have hxo:=h.2 y (hx▸List.getElem_mem hk)
  have hxl:=hl2 y (hx▸List.getElem_mem hk)
  obtain⟨hr,hg,hn⟩:=R.range List.mem_cons_self rfl (0+k*40) (cs:=y.cells) (by show(List.drop _ ((M++l.drop k).flatMap ak.cells)).take _=_; rw[hd]; exact aaF hM (fun _=>rfl))
  have S:=S.view hg hr hn
  refine adr S 4 [.idx k l.length] [(5,.pointer (some ⟨g,0+k*40,none⟩))] (hk:=⟨hk,trivial⟩) fun ac S=>aiF (dV _ _ ?_)
  have q1:=S.E.size
  have q2:=R.lt
  refine Sx.hoist [1,2] 19<|Sx.uY S 19 [(23,fun v w1=>Cp 155 5 fK.cells u.heap.size v y.stops w1),(29,fun v w1=>Cp 122 4 dI.cells u.heap.size v y.img.l w1),(34,fun v w1=>∃t:aV,v=t.v∧t.cp u.heap.size w1∧t.strip=y.t.strip)] (fun r=>[.mem 0 10,.mem 0 14,.mem 0 16]) (fun x=>[x 23,x 29,x 34]) (fun x=>[(_,_,true,x 23,23),(_,_,true,x 29,29),(_,_,true,x 34,34)]) [[],[],[]] (fun x=>[(16,.pointer (some ⟨g,0+k*40,none⟩)),(17,.pointer (some ⟨g,0+k*40,none⟩)),(18,.pointer (some ⟨g,0+k*40,none⟩)),(23,x 23),(29,x 29),(34,x 34)]) ⟨fun _ _ _ k h=>h.ext k,fun _ _ _ k h=>h.ext k,fun _ _ _ k h=>by obtain⟨t,e,h,q⟩:=h; exact⟨t,e,h.ext k,q⟩,trivial⟩ (fun x=>⟨by intro u hC g F; exact(LY (hxo.2.2.2.2.1.below (Ext.trans' S.E hC)) hxl.1).mono fun e w2 h=>by obtain⟨v,rfl,hx,hb⟩:=h; exact⟨_,rfl,hx.mono hC.size,hb⟩,by intro u hC g F; exact(Es (hxo.2.2.2.2.2.2.2.1.2.2.below (Ext.trans' S.E hC)) hxl.2.1).mono fun e w2 h=>by obtain⟨v,rfl,hx,hb⟩:=h; exact⟨_,rfl,hx.mono hC.size,hb⟩,by intro u hC g F; exact(yH (hxo.2.2.2.2.2.2.2.2.2.below (Ext.trans' S.E hC)) hxl.2.2).mono fun e w2 h=>by obtain⟨t,rfl,hx,ht,hb⟩:=h; exact⟨_,rfl,⟨t,rfl,XV hx hC.size,ht⟩,hb⟩,trivial⟩) (fun ac u x sF F S=>?_)
  obtain⟨F23,F29,F34,-⟩:=F
  obtain⟨b1,d1,e1⟩:=Cp.shape F23
  rw[e1]at S F23
  obtain⟨b2,d2,e2⟩:=Cp.shape F29
  rw[e2]at S F29
  obtain⟨t,e3,F34,ht⟩:=F34
  rw[e3]at S
  refine adr S 2 [] [(36,.pointer (some ⟨g,0+k*40+10,none⟩))] (fun ac S=>?_)
  obtain⟨R,Y12⟩:=R.eH S (Sx.Stp.ext sF)
  have G0:Sx.Ow _ _ (fun W=>(y.re b1 d1 b2 d2 t).qY w.heap.size W) _:=Sx.On.imp (Sx.iE.ow (XZ hxo F23 F29 F34) q1 q2) fun _ h=>h.le q1
  have hlen:((M++l.drop k).flatMap ak.cells).length=l.length*40:=by rw[Sx.jh (f:=ak.cells) (k:=40) (fun _=>rfl)]; simp; omega
  have aii:k*40+40≤l.length*40:=by omega
  refine Sx.IJ S R 0 (off:=0+k*40+10) (v := .slice b1 y.stops.length d1) rfl rfl (by show 0+k*40+10+1≤_; rw[hlen]; omega) fun u X13 R S=>adr S 3 [] [(39,.pointer (some ⟨g,0+k*40+14,none⟩))] fun ac S=>Sx.IJ S R 0 (off:=0+k*40+14) (v := .slice b2 y.img.l.length d2) rfl rfl (by show 0+k*40+14+1≤_; rw[DR (by show 0+k*40+10+1≤_; rw[hlen]; omega),hlen]; omega) fun u Ed R S=>adr S 2 [] [(41,.pointer (some ⟨g,0+k*40+16,none⟩))] fun ac S=>Sx.Mc S R 0 (off:=0+k*40+16) (cs:=t.cells) rfl rfl (by show 0+k*40+16+24≤_; rw[DR (by show 0+k*40+14+1≤_; rw[DR (by show 0+k*40+10+1≤_; rw[hlen]; omega),hlen]; omega),DR (by show 0+k*40+10+1≤_; rw[hlen]; omega),hlen]; omega) fun u X15 R S=>aiF<|dP _ _<|Vp.region<|adr S 2 [.re 42 (.int .i64 (IntKind.i64.wrap (((k:Nat):Int)+1))) (.int .i64 (((k+1):Nat):Int))] [(10,.int .i64 (((k+1):Nat):Int))] (hk:=⟨aiR (by omega),trivial⟩) fun ac S=>aiF ?_
  show ∃i',_∧_
  have hxs:Sx.spl (Sx.spl (Sx.spl ((M++l.drop k).flatMap ak.cells) (0+k*40+10) [.slice b1 y.stops.length d1]) (0+k*40+14) [.slice b2 y.img.l.length d2]) (0+k*40+16) t.cells=((M++[y.re b1 d1 b2 d2 t])++l.drop (k+1)).flatMap ak.cells:=by
   rw[show(M++[y.re b1 d1 b2 d2 t])++l.drop (k+1)=M++(y.re b1 d1 b2 d2 t::l.drop (k+1)) by simp,hd,List.flatMap_append,List.flatMap_append,List.flatMap_cons,List.flatMap_cons,Eu (k:=40) (f:=ak.cells) hM (fun _=>rfl) (of_decide_eq_true (by kernel_rfl)),Eu (k:=40) (f:=ak.cells) hM (fun _=>rfl) (of_decide_eq_true (by kernel_rfl)),Eu (k:=40) (f:=ak.cells) hM (fun _=>rfl) (of_decide_eq_true (by kernel_rfl)),X0]
  exact⟨((k+1),M++[y.re b1 d1 b2 d2 t]),⟨by omega,(Qa hk hx hR (by show(y.re b1 d1 b2 d2 t).strip=y.strip; unfold ak.strip ak.re; rw[ht]; rfl)),R.as (congrArg (fun xs=>[(⟨99,40,.slice (some ⟨g,0,none⟩) l.length c1,l.length,xs⟩:Sx.Row)]) hxs),Sx.On.imp (Sx.On.and (Sx.On.step H9 (Sx.Stp.trans Y12 (Sx.Stp.trans X13 (Sx.Stp.trans Ed X15)))) (Sx.On.step G0 (Sx.Stp.trans X13 (Sx.Stp.trans Ed X15)))) fun _ h=>X3 h.1 h.2,(S.sub [(0,.slice a l.length cap),(2,.slice none 0 0),(3,.slice (some ⟨g,0,none⟩) l.length c1),(9,.int .i64 ((l.length:Nat):Int)),(10,.int .i64 (((k+1):Nat):Int))]).aK⟩,by show _-_<_-_; omega⟩
 ·refine wp_exit<|gW _ _<|aiG fun _ iR=>adr S 2 [] [(2,.slice a1 l.length c1)] fun ac S=>aiF<|iR _ _<|Vp.rt ?_
  refine aiH S Tryz.results100 ?_
  have hk:=of_decide_eq_false kV
  obtain rfl:k=l.length:=by omega
  exact⟨_,M,rfl,Sx.On.and (Sx.fV (fun _=>rfl) (R.own _ List.mem_cons_self) (by have:=congrArg List.length hR; simp at this; exact this.symm) (by simp)) (Sx.Ow.dep H9),by simpa using hR,S.E⟩
def aj.lim(n:aj):Prop:=n.t.lim∧n.clip.length≤10000000∧n.path.length≤10000000∧n.fill.length≤10000000∧(∀p∈n.fill,p.lim)∧n.style.dash.length≤10000000∧n.stroke.length≤10000000∧(∀p∈n.stroke,p.lim)∧n.img.l.length≤10000000
abbrev aj.cp (base:Nat)(n:aj)(w:World):Prop:=Sx.iE base (fun W=>n.qY base W) w
theorem JO{base b0:Nat}{n:aj}{w:World}(h:n.cp base w)(hb:b0≤base):n.cp b0 w:=Sx.On.imp (Sx.iE.le h hb) fun _ h=>⟨h.1,h.2.1.le hb,h.2.2.1.le hb,h.2.2.2.1.le hb,h.2.2.2.2.1.le hb,h.2.2.2.2.2.1.le hb,h.2.2.2.2.2.2.1.le hb,h.2.2.2.2.2.2.2.le hb⟩
theorem aaG{base:Nat}{w w1:World}{n m:aj}(h:n.ok w1)(e1:m.id=n.id)(e2:m.kind=n.kind)(e3:m.depth=n.depth)(e4:m.clip=n.clip)(e5:m.aO=n.aO)(e6:m.blend=n.blend)(e7:m.path=n.path)(e8:m.aY=n.aY)(e9:m.style.key=n.style.key)(e10:m.img.key=n.img.key)(e11:m.cZ=n.cZ)
  (h1:m.t.cp base w) (h2:Cp 62 7 dW.cells base m.cs m.clip w) (h3:Cp 62 7 dW.cells base m.ps m.path w) (h4:qZ base m.fs m.fill w) (h5:qZ base m.ss m.stroke w) (h6:Cp 3 1 (fun x=>[zf x]) base m.style.s m.style.dash w) (h7:Cp 122 4 dI.cells base m.img.s m.img.l w):m.cp base w:=by
 obtain⟨k1,k2,k3,k4,k5,k6,k7,k8,k9,k10,k11,k12,k13,k14⟩:=h
 simp only[aZ.key,Ey.mk.injEq]at e9
 simp only[bU.key,U6.mk.injEq]at e10
 refine Sx.On.imp (Sx.On.and h1 (Sx.On.and h2 (Sx.On.and h3 (Sx.On.and h4 (Sx.On.and h5 (Sx.On.and h6 h7)))))) fun W ⟨q1,q2,q3,q4,q5,q6,q7⟩=>⟨?_,q1,q2.2,q3.2,q4,q5,q6.2,q7.2⟩
 refine⟨e1▸k1,e2▸k2,e3▸k3,q1.ok,⟨q2.1,?_⟩,e5▸k6,e6▸k7,⟨q3.1,?_⟩,e8▸k9,q4.ok,⟨?_,?_,?_,?_,Eo q6.1,?_,?_⟩,q5.ok,⟨?_,?_,q7.1⟩,e11▸k14⟩
 ·rw[e4]; exact k5.2
 ·rw[e7]; exact k8.2
 ·rw[e9.1]; exact k11.1
 ·rw[e9.2.1]; exact k11.2.1
 ·rw[e9.2.2.1]; exact k11.2.2.1
 ·rw[e9.2.2.2.1]; exact k11.2.2.2.1
 ·rw[e9.2.2.2.2.1]; exact k11.2.2.2.2.2.1
 ·rw[e9.2.2.2.2.2]; exact k11.2.2.2.2.2.2
 ·rw[e10.1]; exact k13.1
 ·rw[e10.2.1]; exact k13.2.1
theorem clone_any{w:World}{nd:aj}(h:nd.ok w)(hl:nd.lim) :
  Calls Tryz.prog 60 #[nd.v] w fun e w'=>∃m:aj,e = .returned m.v∧m.cp w.heap.size w'∧m.strip=nd.strip∧Ext w w':=by
 skip
 refine aiK Tryz.func60 Tryz.ntmps60 fun ac S=>aiG fun _ aU=>aiJ S 1 nd.cells fun ac u b2 E3 hb4 S=>aiJ S 2 (Sx.L [.int .i64 0,.int .i64 0,.int .i64 0]++Sx.za++Sx.L [.slice none 0 0,.int .i64 0,.int .u8 0,.int .i64 0,.bool false,.bool false,.slice none 0 0,.int .i64 0,.slice none 0 0,.int .i64 0,.int .i64 0,.int .i64 0,.int .i64 0,.slice none 0 0,.int .i64 0,.slice none 0 0,.int .i64 0,.int .i64 0,.slice none 0 0,.int .i64 0]) fun ac u b5 E6 hb7 S=>aiF<|aU _ _<|aiG (fun _ dP=>?_)
 have y:=S.E.size
 have z0:=(S.bx 0).1
 have z1:=(S.bx 1).1
 refine adr S 2 [.mem 1 3] [(4,nd.t.v)] fun ac S=>aiQ S (some 5) (yH (h.2.2.2.1.below S.E) hl.1) ?_
 rintro e u ⟨t,rfl,ht,hs,E9⟩
 refine⟨_,rfl,E9,fun ac S=>?_⟩
 refine adr S 1 [] [(6,.pointer (some ⟨b2,3,none⟩))] fun ac S=>aiL S 1 (off:=3) (cs:=t.cells) rfl (fun u C10 S=>?_)
 have P7:=iE.ch ht C10 (by omega)
 refine aiF<|dP _ _<|wp_seq_k (fun _ dw=>?_)
 have y:=S.E.size
 have z0:=(S.bx 0).1
 have z1:=(S.bx 1).1
 refine aiV S 7 [(9,fun v w1=>Cp 62 7 dW.cells u.heap.size v nd.clip w1),(12,fun v w1=>Cp 62 7 dW.cells u.heap.size v nd.path w1)] (fun r=>[.mem 1 27,.mem 1 33]) (fun x=>[x 9,x 12]) (fun x=>[(_,_,true,x 9,9),(_,_,true,x 12,12)]) [[],[]] (fun x=>[(9,x 9),(12,x 12),(13,.pointer (some ⟨b2,27,none⟩))]) ⟨fun _ _ _ k h=>h.ext k,fun _ _ _ k h=>h.ext k,trivial⟩ (fun x=>⟨by intro u hC g F; exact(Ep (h.2.2.2.2.1.1.below (Ext.trans' S.E hC)) hl.2.1).mono fun e w2 h=>by obtain⟨v,rfl,hx,hb⟩:=h; exact⟨_,rfl,hx.mono hC.size,hb⟩,by intro u hC g F; exact(Ep (h.2.2.2.2.2.2.2.1.1.below (Ext.trans' S.E hC)) hl.2.2.1).mono fun e w2 h=>by obtain⟨v,rfl,hx,hb⟩:=h; exact⟨_,rfl,hx.mono hC.size,hb⟩,trivial⟩) (fun ac u x H7 F S=>?_)
 obtain⟨F9,LM,-⟩:=F
 obtain⟨a1,c1,e1⟩:=Cp.shape F9
 rw[e1]at S F9
 obtain⟨a2,c2,e2⟩:=Cp.shape LM
 rw[e2]at S LM
 refine aiW S 1 (off:=27) (v := .slice a1 nd.clip.length c1) rfl (fun u C14 S=>?_)
 have zi:=iE.ch (P7.ext H7) C14 (by omega)
 have X4:=iE.ch F9 C14 (by omega)
 have acR:=iE.ch LM C14 (by omega)
 refine adr S 1 [] [(14,.pointer (some ⟨b2,33,none⟩))] fun ac S=>aiW S 1 (off:=33) (v := .slice a2 nd.path.length c2) rfl (fun u Xk S=>?_)
 have Dx:=iE.ch zi Xk (by omega)
 have L6:=iE.ch X4 Xk (by omega)
 have Qb:=iE.ch acR Xk (by omega)
 refine aiF<|dw _ _<|wp_seq_k (fun _ jM=>?_)
 have y:=S.E.size
 have z0:=(S.bx 0).1
 have z1:=(S.bx 1).1
 refine aiV S 7 [(17,fun v w1=>∃l,qZ u.heap.size v l w1∧l.map ak.strip=nd.fill.map ak.strip),(20,fun v w1=>∃l,qZ u.heap.size v l w1∧l.map ak.strip=nd.stroke.map ak.strip)] (fun r=>[.mem 1 35,.mem 1 42]) (fun x=>[x 17,x 20]) (fun x=>[(_,_,true,x 17,17),(_,_,true,x 20,20)]) [[],[]] (fun x=>[(17,x 17),(20,x 20),(21,.pointer (some ⟨b2,35,none⟩))]) ⟨fun _ _ _ k h=>by obtain⟨l,h,e⟩:=h; exact⟨l,h.ext k,e⟩,fun _ _ _ k h=>by obtain⟨l,h,e⟩:=h; exact⟨l,h.ext k,e⟩,trivial⟩ (fun x=>⟨by intro u hC g F; exact(Ew (h.2.2.2.2.2.2.2.2.2.1.below (Ext.trans' S.E hC)) hl.2.2.2.1 hl.2.2.2.2.1).mono fun e w2 h=>by obtain⟨v,l,rfl,hx,hs,hb⟩:=h; exact⟨_,rfl,⟨l,xK hx hC.size,hs⟩,hb⟩,by intro u hC g F; exact(Ew (h.2.2.2.2.2.2.2.2.2.2.2.1.below (Ext.trans' S.E hC)) hl.2.2.2.2.2.2.1 hl.2.2.2.2.2.2.2.1).mono fun e w2 h=>by obtain⟨v,l,rfl,hx,hs,hb⟩:=h; exact⟨_,rfl,⟨l,xK hx hC.size,hs⟩,hb⟩,trivial⟩) (fun ac u x JA F S=>?_)
 obtain⟨Qc,F20,-⟩:=F
 obtain⟨l3,Qc,s3⟩:=Qc
 obtain⟨a3,c3,e3⟩:=(Sx.On.self Qc).1.1.shape
 rw[e3]at S Qc
 obtain⟨l4,F20,s4⟩:=F20
 obtain⟨a4,c4,e4⟩:=(Sx.On.self F20).1.1.shape
 rw[e4]at S F20
 refine aiW S 1 (off:=35) (v := .slice a3 l3.length c3) rfl (fun u C24 S=>?_)
 have uf:=iE.ch (Dx.ext JA) C24 (by omega)
 have yD:=iE.ch (L6.ext JA) C24 (by omega)
 have Qd:=iE.ch (Qb.ext JA) C24 (by omega)
 have XW:=iE.ch Qc C24 (by omega)
 have P8:=iE.ch F20 C24 (by omega)
 refine adr S 1 [] [(22,.pointer (some ⟨b2,42,none⟩))] fun ac S=>aiW S 1 (off:=42) (v := .slice a4 l4.length c4) rfl (fun u C30 S=>?_)
 have Bz:=iE.ch uf C30 (by omega)
 have aaH:=iE.ch yD C30 (by omega)
 have Ez:=iE.ch Qd C30 (by omega)
 have X5:=iE.ch XW C30 (by omega)
 have U7:=iE.ch P8 C30 (by omega)
 refine aiF<|jM _ _<|wp_seq_k (fun _ nJ=>?_)
 have y:=S.E.size
 have z0:=(S.bx 0).1
 have z1:=(S.bx 1).1
 refine aiV S 10 [(26,fun v w1=>Cp 3 1 (fun x=>[zf x]) u.heap.size v nd.style.dash w1),(30,fun v w1=>Cp 122 4 dI.cells u.heap.size v nd.img.l w1)] (fun r=>[.mem 1 40,.mem 1 45]) (fun x=>[x 26,x 30]) (fun x=>[(_,_,true,x 26,26),(_,_,true,x 30,30)]) [[],[]] (fun x=>[(26,x 26),(30,x 30),(32,.pointer (some ⟨b2,40,none⟩))]) ⟨fun _ _ _ k h=>h.ext k,fun _ _ _ k h=>h.ext k,trivial⟩ (fun x=>⟨by intro u hC g F; exact(P6 ((eG (f:=zf) h.2.2.2.2.2.2.2.2.2.2.1.2.2.2.2.1).below (Ext.trans' S.E hC)) hl.2.2.2.2.2.1).mono fun e w2 h=>by obtain⟨v,rfl,hx,hb⟩:=h; exact⟨_,rfl,hx.mono hC.size,hb⟩,by intro u hC g F; exact(Es (h.2.2.2.2.2.2.2.2.2.2.2.2.1.2.2.below (Ext.trans' S.E hC)) hl.2.2.2.2.2.2.2.2).mono fun e w2 h=>by obtain⟨v,rfl,hx,hb⟩:=h; exact⟨_,rfl,hx.mono hC.size,hb⟩,trivial⟩) (fun ac u x LP F S=>?_)
 obtain⟨F26,F30,-⟩:=F
 obtain⟨a5,c5,e5⟩:=Cp.shape F26
 rw[e5]at S F26
 obtain⟨a6,c6,e6⟩:=Cp.shape F30
 rw[e6]at S F30
 refine aiW S 1 (off:=40) (v := .slice a5 nd.style.dash.length c5) rfl (fun u Xl S=>?_)
 have acN:=iE.ch (Bz.ext LP) Xl (by omega)
 have XY:=iE.ch (aaH.ext LP) Xl (by omega)
 have U5:=iE.ch (Ez.ext LP) Xl (by omega)
 have aaI:=iE.ch (X5.ext LP) Xl (by omega)
 have Md:=iE.ch (U7.ext LP) Xl (by omega)
 have U8:=iE.ch F26 Xl (by omega)
 have aaJ:=iE.ch F30 Xl (by omega)
 refine adr S 2 [] [(34,.pointer (some ⟨b2,45,none⟩))] fun ac S=>aiW S 1 (off:=45) (v := .slice a6 nd.img.l.length c6) rfl (fun u UQ S=>?_)
 have agS:=iE.ch acN UQ (by omega)
 have aeH:=iE.ch XY UQ (by omega)
 have aaE:=iE.ch U5 UQ (by omega)
 have acO:=iE.ch aaI UQ (by omega)
 have Xz:=iE.ch Md UQ (by omega)
 have XA:=iE.ch U8 UQ (by omega)
 have XB:=iE.ch aaJ UQ (by omega)
 refine aiF<|nJ _ _<|aiG fun _ UR=>adr S 1 [.mem 1 0] [(35,.agg (Sx.L [.int .i64 nd.id,.int .i64 nd.kind,.int .i64 nd.depth]++t.cells++Sx.L [.slice a1 nd.clip.length c1,.int .i64 nd.aO,.int .u8 (nd.eY.toNat:Int),.int .i64 nd.blend,.bool nd.isolated,.bool nd.dN,.slice a2 nd.path.length c2,.int .i64 nd.aY,.slice a3 l3.length c3,.int .i64 nd.style.width,.int .i64 nd.style.join,.int .i64 nd.style.cap,.int .i64 nd.style.dU,.slice a5 nd.style.dash.length c5,.int .i64 nd.style.phase,.slice a4 l4.length c4,.int .i64 nd.img.w,.int .i64 nd.img.h,.slice a6 nd.img.l.length c6,.int .i64 nd.cZ]).toArray)] fun ac S=>aiL S 0 (off:=0) (cs:=(Sx.L [.int .i64 nd.id,.int .i64 nd.kind,.int .i64 nd.depth]++t.cells++Sx.L [.slice a1 nd.clip.length c1,.int .i64 nd.aO,.int .u8 (nd.eY.toNat:Int),.int .i64 nd.blend,.bool nd.isolated,.bool nd.dN,.slice a2 nd.path.length c2,.int .i64 nd.aY,.slice a3 l3.length c3,.int .i64 nd.style.width,.int .i64 nd.style.join,.int .i64 nd.style.cap,.int .i64 nd.style.dU,.slice a5 nd.style.dash.length c5,.int .i64 nd.style.phase,.slice a4 l4.length c4,.int .i64 nd.img.w,.int .i64 nd.img.h,.slice a6 nd.img.l.length c6,.int .i64 nd.cZ])) rfl (fun u C55 S=>?_)
 have agT:=iE.ch agS C55 (by omega)
 have agU:=iE.ch aeH C55 (by omega)
 have agV:=iE.ch aaE C55 (by omega)
 have agW:=iE.ch acO C55 (by omega)
 have agX:=iE.ch Xz C55 (by omega)
 have acP:=iE.ch XA C55 (by omega)
 have acQ:=iE.ch XB C55 (by omega)
 refine aiF<|UR _ _<|Vp.rt ?_
 refine aiS S 0 Tryz.results60 rfl (v := .agg (Sx.L [.int .i64 nd.id,.int .i64 nd.kind,.int .i64 nd.depth]++t.cells++Sx.L [.slice a1 nd.clip.length c1,.int .i64 nd.aO,.int .u8 (nd.eY.toNat:Int),.int .i64 nd.blend,.bool nd.isolated,.bool nd.dN,.slice a2 nd.path.length c2,.int .i64 nd.aY,.slice a3 l3.length c3,.int .i64 nd.style.width,.int .i64 nd.style.join,.int .i64 nd.style.cap,.int .i64 nd.style.dU,.slice a5 nd.style.dash.length c5,.int .i64 nd.style.phase,.slice a4 l4.length c4,.int .i64 nd.img.w,.int .i64 nd.img.h,.slice a6 nd.img.l.length c6,.int .i64 nd.cZ]).toArray) ?_
 exact⟨⟨nd.id,nd.kind,nd.depth,t,a1,c1,nd.clip,nd.aO,nd.eY,nd.blend,nd.isolated,nd.dN,a2,c2,nd.path,nd.aY,a3,c3,l3,⟨nd.style.width,nd.style.join,nd.style.cap,nd.style.dU,a5,c5,nd.style.dash,nd.style.phase⟩,a4,c4,l4,⟨nd.img.w,nd.img.h,a6,c6,nd.img.l⟩,nd.cZ⟩,rfl,aaG h rfl rfl rfl rfl rfl rfl rfl rfl rfl rfl rfl (XV agT (by omega)) (Cp.mono agU (by omega)) (Cp.mono agV (by omega)) (xK agW (by omega)) (xK agX (by omega)) (Cp.mono acP (by omega)) (Cp.mono acQ (by omega)),by unfold aj.strip; rw[hs,s3,s4]; rfl,S.E⟩
end Go.Proofs.YtfmkkemfhjkajaaGreatDoor
