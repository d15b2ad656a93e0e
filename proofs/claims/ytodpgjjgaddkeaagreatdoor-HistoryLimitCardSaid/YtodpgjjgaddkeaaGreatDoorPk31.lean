/- What decoding an encoding gives: scenes and edits. No -/
import Derived.Test.YtodpgjjgaddkeaaGreatDoorPk30
set_option maxHeartbeats 3200000
set_option maxRecDepth 100000
set_option linter.unusedVariables false
set_option linter.unusedSimpArgs false
namespace Go.Proofs.YtodpgjjgaddkeaaGreatDoor
open _root_.Go.Proofs.Tryz
section
open En
variable{K L:Nat}
theorem bG.fit.up{k k':Nat}{t:bG}(h:t.fit k)(hk:k≤k'):t.fit k':=⟨h.1.mono hk,h.2.1.mono hk,h.2.2.1.mono hk,h.2.2.2.1.mono hk,h.2.2.2.2.1.mono hk,h.2.2.2.2.2.mono hk⟩
theorem eu.up{w:World}{n:aj}(h:eu K w n)(hk:K≤L)(hL:L≤10000):eu L w n:=⟨h.1,h.2.1.up hk,fun p hp=>(h.2.2.1 p hp).up hk,fun p hp=>(h.2.2.2.1 p hp).up hk,az3 h.2.2.2.2.1 hk,hL⟩
theorem dJ.up{w:World}{s:aJ}(h:dJ K w s)(hk:K≤L)(hL:L≤10000):dJ L w s:=⟨h.1,h.2.1,h.2.2.1,fun n hn=>(h.2.2.2 n hn).up hk hL⟩
theorem iF.up{w:World}{e:bn}(h:iF K w e)(hk:K≤L)(hL:L≤10000):iF L w e:=⟨h.1,h.2.1,h.2.2.1,h.2.2.2.1,h.2.2.2.2.up hk hL⟩
theorem abt{w:World}{e d:bn}(h:iF K w e)(h':iF K w d)(m:fD e.key=false)(m':fD d.key=false)(v:jh e.key=true→e.key.node.chk=0)(v':jh d.key=true→d.key.node.chk=0)(hb:jW e.key=jW d.key):e.key=d.key:=by
 have k:=Xr h m v;have k':=Xr h' m' v';unfold jW at hb;have hb:=List.append_cancel_left hb;rw[Jd,Jd]at hb;obtain⟨i1,i2,i3,i4⟩:=k.i;obtain⟨j1,j2,j3,j4⟩:=k'.i;obtain⟨e1,hb⟩:=LC i1 j1 _ _ hb;obtain⟨e2,hb⟩:=LC i2 j2 _ _ hb;obtain⟨e3,hb⟩:=LC i3 j3 _ _ hb;obtain⟨e4,hb⟩:=LC i4 j4 _ _ hb;have hn:e.key.node=d.key.node∧e.key.color=d.key.color:=by
  unfold Ai at hb;by_cases hk:e.key.kind=1∨e.key.kind=4
  ·have hk':d.key.kind=1∨d.key.kind=4:=e1▸hk;rw[azI hk,azI hk']at hb;have c1:=v (by unfold jh; simpa using hk);have c2:=v' (by unfold jh; simpa using hk');rw[show e.key.node=e.node.key from rfl,kZ]at c1;rw[show d.key.node=d.node.key from rfl,kZ]at c2;exact⟨(LD h.2.2.2.2.1 h'.2.2.2.2.1 c1 c2 [] [] (by rw[aAL,aAL]; exact hb)).1,(k.color (by omega)).trans (k'.color (by omega)).symm⟩
  have hk':¬(d.key.kind=1∨d.key.kind=4):=e1▸hk;rw[azG hk,azG hk']at hb;refine⟨(k.Y1 hk).trans (k'.Y1 hk').symm,?_⟩;by_cases h5:e.key.kind=5
  ·have h5':d.key.kind=5:=e1▸h5;rw[azI h5,azI h5']at hb;exact(SE _ _ [] [] (by rw[aAL,aAL]; exact hb)).1
  have h5':¬d.key.kind=5:=e1▸h5;exact(k.color h5).trans (k'.color h5').symm
 obtain⟨e5,e6⟩:=hn;revert e1 e2 e3 e4 e5 e6;generalize e.key=x;generalize d.key=y;intro e1 e2 e3 e4 e5 e6;cases x; cases y;simp only at e1 e2 e3 e4 e5 e6;rw[e1,e2,e3,e4,e5,e6]
theorem TK.good{base:Nat}{w:World}{s:bD}{v:Value}{er:Int}(h:TK base w s v er)(hv:s.valid=true):er=0∧OwnB base w v (fP.app (dU s)):=by
 rcases h with ⟨h1,h2,h3⟩ | ⟨h1,-⟩
 ·exact⟨h3,h2⟩
 rw[hv]at h1; cases h1
theorem TQ.good{base:Nat}{w:World}{e:bZ}{v:Value}{er:Int}(h:TQ base w e v er)(hm:fD e=false)(hv:jh e=true→e.node.chk=0):er=0∧OwnB base w v (fP.app (jW e)):=by
 rcases h with ⟨h1,-⟩ | ⟨h1,h2,h3,-⟩ | ⟨h1,h2,h3,h4⟩
 ·rw[hm]at h1; cases h1
 ·exact absurd (hv h2) h3
 exact⟨h4,h3⟩
theorem Xv{s:aJ}(h:s.key.valid=true):(fP.app (dU s.key)).length≤60000000:=by
 rw[nV]; have:=Dt h; omega
theorem DI{e:bn}(hv:jh e.key=true→e.key.node.chk=0):(fP.app (jW e.key)).length≤60000000:=by
 rw[nV];have:=Y0 (e:=e) fun hk=>by
  have:=hv (by unfold jh; show((e.kind==1)||(e.kind==4))=true; simpa using hk);rwa [show e.key.node=e.node.key from rfl,kZ]at this
 unfold jW;simp only[azL,aAn,aAS];omega
end
section
open En
structure Hs (ss:List bD) (es:List bZ):Prop where
 len:ss.length=es.length+1
 val:∀s∈ss,s.valid=true
 step:∀i e,es[i]?=some e→∃s t,ss[i]?=some s∧ss[i+1]?=some t∧fB s e=(t,0)
theorem Hs.new{s:bD}(h:s.valid=true):Hs [s] []:=⟨rfl,fun t ht=>by rw[aAb.1 ht]; exact h,fun i e h=>by simp at h⟩
theorem Hs.put{ss:List bD}{es:List bZ}{k:Nat}{s t:bD}{e:bZ}(h:Hs ss es)(hs:ss[k]?=some s)(ha:fB s e=(t,0)):Hs (ss.take (k+1)++[t]) (es.take k++[e]):=by
 obtain⟨hk,rfl⟩:=List.getElem?_eq_some_iff.1 hs;have hl:=h.len;have l1:(ss.take (k+1)).length=k+1:=by rw[aBa]; omega
 have l2:(es.take k).length=k:=by rw[aBa]; omega
 refine⟨by simp only[azL,l1,l2,aCs],fun x hx=>?_,fun i x hx=>?_⟩
 ·rcases aAl.1 hx with hx | hx
  ·exact h.val x (aB5 hx)
  rw[aAb.1 hx];obtain⟨-,-,l,-,-,h5⟩:=Ld ha;exact h5
 have hi:i<k+1:=by
  have:=(List.getElem?_eq_some_iff.1 hx).1;simp only[azL,l2,aCs]at this;exact this
 rcases aAx i k with h1 | h1
 ·rw[List.getElem?_append_left (by omega),List.getElem?_take_of_lt h1]at hx;obtain⟨a,b,h2,h3,h4⟩:=h.step i x hx;exact⟨a,b,by rw[List.getElem?_append_left (by omega),List.getElem?_take_of_lt hi]; exact h2,by rw[List.getElem?_append_left (by omega),List.getElem?_take_of_lt (by omega)]; exact h3,h4⟩
 obtain rfl:i=k:=by omega
 rw[List.getElem?_append_right (by omega),l2,aBH]at hx;simp only[List.getElem?_cons_zero,azK]at hx;subst hx;exact⟨_,_,by rw[List.getElem?_append_left (by omega),List.getElem?_take_of_lt hi]; exact hs,by rw[List.getElem?_append_right (by omega),l1,aBH]; rfl,ha⟩
theorem Xw{s t:bD}{e:bZ}(h:fB s e=(t,0)):fD e=false∧(jh e=true→e.node.chk=0):=by
 obtain⟨h1,h2,l,h3,rfl,h5⟩:=Ld h;have hc:=(VN.1 (bD.nD.1 h5).2.2).1;replace hc:∀x∈l,x.chk=0:=hc;constructor
 ·have hz:aQ.zero=bK.key:=rfl;have hp:bC.none=⟨0,0,0,0⟩:=rfl;unfold bZ.named at h2;unfold fD;repeat' split at h2
  all_goals simp_all
 intro hh;unfold jh at hh;simp only[aBu,azU]at hh;unfold mD at h3;rcases hh with hh | hh
 ·rw[azI hh]at h3;split at h3
  ·cases h3
  simp only[aB3]at h3;exact hc _ (by rw[←h3]; unfold agJ; simp)
 rw[azG (by omega),azG (by omega),azG (by omega),azI hh]at h3;cases hf:nC s.ns e.node.id with
 | none=>rw[hf]at h3; cases h3
 | some i =>
  rw[hf]at h3;simp only at h3;split at h3
  ·cases h3
  simp only[aB3]at h3;obtain⟨hi,-⟩:=Ic hf;exact hc _ (by rw[←h3]; exact List.mem_set hi ..)
theorem Hs.enc{ss:List bD}{es:List bZ}(h:Hs ss es){e:bZ}(he:e∈es):fD e=false∧(jh e=true→e.node.chk=0):=by
 obtain⟨i,hi,rfl⟩:=List.getElem_of_mem he;obtain⟨a,b,-,-,h3⟩:=h.step i _ (List.getElem?_eq_getElem hi);exact Xw h3
def eB(e:bZ):List UInt8:=fQ (fP.app (jW e))
def hB(s:bD)(k:Nat)(es:List bZ):List UInt8:=fQ (fP.app (dU s))++(dV 10 k++(dV 10 es.length++es.flatMap eB))
end
section
open Go.RowKit
variable{α:Type}{K:Nat}
def alM(i j k:Int)(c:bC)(n:aj):Bool:=((((i==0)&&(j==0))&&(k==0))&&decide (c=bC.none))&&decide (n.key=aQ.zero)
theorem Cc(i j k:Int)(c:bC)(n:aj):alM i j k c n=(i==0&&(j==0&&(k==0&&(n.key==aQ.zero&&c==bC.none)))):=by
 unfold alM;rw[show(n.key==aQ.zero)=decide (n.key=aQ.zero)from rfl,show(c==bC.none)=decide (c=bC.none)from rfl];ac_rfl
theorem TW:(bK.key==aQ.zero)=true:=by rw[show bK.key=aQ.zero from rfl]; simp
set_option maxRecDepth 100000 in
set_option maxHeartbeats 3200000 in
theorem abu{w:World}{e:bn}(he:iF K w e) :
  Calls prog 98 #[e.v] w fun r w'=>r = .returned (.bool e.key.named)∧Ext w w':=by
 skip;refine azN func98 ntmps98 (fun ac S=>?_);have hK1:=he.2.2.2.2.2.2.2.2.1;have hK2:=he.2.2.2.2.2.2.2.2.2;refine azc fun _ gW=>Sx.qO S 1 e.cells fun ac u b2 E3 hb4 S=>apB S 1 [] [(2,.z)] fun S=>aza<|gW _ _<|azX (fun κq Bg=>?_);have J6:∀(kd i j k:Int) (n:aj) (c:bC) (ac:Act) (u:World),(alM i j k c n=e.key.named)→(eu K u n)→Sx.St w ac u 48 [(1,.q b2 0),(2,.z)] [(b2,(Sx.L [.i kd,.i i,.i j,.i k]++n.cells++c.cells))] []→κq ac u:=by
  intro kd i j k n c ac u ho hn S;refine Bg _ _<|azc fun _ Vo=>Sx.ade S 26 [.mem 0 1,.mem 0 2,.mem 0 3,.mem 0 51,.cmp .eql 40 (.tmp 38) (.tmp 39) (.agg #[.u (c.r.toNat:Int),.u (c.g.toNat:Int),.u (c.b.toNat:Int),.u (c.a.toNat:Int)]) (.agg #[.u 0,.u 0,.u 0,.u 0]) (.bool (c=bC.none)),.mem 0 4] [(_,_,(((((i)==0)&&((j)==0))&&((k)==0))&&(decide (c=bC.none))),.bool (n.key=aQ.zero))] [(2,.bool ((((((i)==0)&&((j)==0))&&((k)==0))&&(decide (c=bC.none)))&&(decide (n.key=aQ.zero))))] ⟨fun u hC g=>xQ (hn.below hC) (gJ u hK1 hK2),trivial⟩ (hk:=⟨(azD (fun _=>akf c bC.none _) (by kernel_rfl)),trivial⟩) fun ac u E8 S=>aza<|Vo _ _<|Sx.UD S results98 ?_;exact⟨aN (by rw[←ho]; rfl),S.E⟩
 refine azc fun _ κ9=>apB S 2 [.mem 0 0] [(4,.i e.kind)] fun S=>aza<|κ9 _ _<|aAC<|azX fun _ zD=>aAC<|azX fun _ OD=>aAC<|azX fun _ QX=>aAC<|azX fun _ VX=>aAC<|azX fun _ vN=>aAC<|azX fun _ Hq=>aAC<|azX fun _ zG=>azX fun _ NJ=>azc fun _ Vq=>apB S 2 [] [(5,.bool ((e.kind)==1))] fun S=>aza (Vq _ _ ?_);refine azC S (fun hc19=>?_) (fun hc19=>?_)
 ·refine aAU<|Hq _ _<|aBe<|apB S 1 [] [(15,.q b2 2)] fun S=>azO S 0 (off:=2) (v := .i 0) rfl fun u yL S=>aza<|vN _ _<|azc fun _ adf=>apB S 2 [] [(16,.agg (Sx.L [.i 0,.i 0,.i 0]++Sx.za++Sx.L [.sn,.i 0,.u 0,.i 0,.z,.z,.sn,.i 0,.sn,.i 0,.i 0,.i 0,.i 0,.sn,.i 0,.sn,.i 0,.i 0,.sn,.i 0]).toArray),(17,.q b2 4)] fun S=>azH S 0 (off:=4) (cs:=(Sx.L [.i 0,.i 0,.i 0]++Sx.za++Sx.L [.sn,.i 0,.u 0,.i 0,.z,.z,.sn,.i 0,.sn,.i 0,.i 0,.i 0,.i 0,.sn,.i 0,.sn,.i 0,.i 0,.sn,.i 0])) rfl fun u C22 S=>aza<|adf _ _<|aAU ?_;exact J6 e.kind e.id 0 e.depth bK e.color _ _ (by have hk:=hc19; rw[Cc]; unfold bZ.named; simp[bn.key,TW,show e.kind=1 from by simpa using hk]) (gJ u he.2.2.2.2.2.2.2.2.1 he.2.2.2.2.2.2.2.2.2) S.sn
 refine aAi<|NJ _ _<|azX fun _ adP=>azc fun _ V9=>apB S 2 [] [(7,.bool ((e.kind)==4))] fun S=>aza (V9 _ _ ?_);refine azC S (fun hc25=>?_) (fun hc25=>?_)
 ·refine aAU<|vN _ _<|azc fun _ auQ=>apB S 2 [] [(16,.agg (Sx.L [.i 0,.i 0,.i 0]++Sx.za++Sx.L [.sn,.i 0,.u 0,.i 0,.z,.z,.sn,.i 0,.sn,.i 0,.i 0,.i 0,.i 0,.sn,.i 0,.sn,.i 0,.i 0,.sn,.i 0]).toArray),(17,.q b2 4)] fun S=>azH S 0 (off:=4) (cs:=(Sx.L [.i 0,.i 0,.i 0]++Sx.za++Sx.L [.sn,.i 0,.u 0,.i 0,.z,.z,.sn,.i 0,.sn,.i 0,.i 0,.i 0,.i 0,.sn,.i 0,.sn,.i 0,.i 0,.sn,.i 0])) rfl fun u C27 S=>aza<|auQ _ _<|aAU ?_;exact J6 e.kind e.id e.index e.depth bK e.color _ _ (by have hk:=hc25; rw[Cc]; unfold bZ.named; simp[bn.key,TW,show e.kind=4 from by simpa using hk]) (gJ u he.2.2.2.2.2.2.2.2.1 he.2.2.2.2.2.2.2.2.2) S.sn
 refine aAi<|adP _ _<|azX fun _ adw=>azc fun _ ad6=>apB S 2 [] [(9,.bool ((e.kind)==3))] fun S=>aza (ad6 _ _ ?_);refine azC S (fun zL=>?_) (fun zL=>?_)
 ·refine aAU<|VX _ _<|aBe<|apB S 1 [] [(18,.q b2 2)] fun S=>azO S 0 (off:=2) (v := .i 0) rfl fun u C31 S=>apB S 1 [] [(19,.q b2 3)] fun S=>azO S 0 (off:=3) (v := .i 0) rfl fun u C32 S=>aza<|QX _ _<|azc fun _ Og=>apB S 1 [] [(20,.q b2 1)] fun S=>azO S 0 (off:=1) (v := .i 0) rfl fun u C34 S=>aza<|Og _ _<|aAU ?_;exact J6 e.kind 0 0 0 e.node e.color _ _ (by have hk:=zL; rw[Cc]; unfold bZ.named; simp[bn.key,show e.kind=3 from by simpa using hk]) (he.2.2.2.2.below S.E) S.sn
 refine aAi<|adw _ _<|azX fun _ VZ=>azc fun _ auR=>apB S 2 [] [(11,.bool ((e.kind)==2))] fun S=>aza (auR _ _ ?_);refine azC S (fun EO=>?_) (fun EO=>?_)
 ·refine aAU<|QX _ _<|azc fun _ ajS=>apB S 1 [] [(20,.q b2 1)] fun S=>azO S 0 (off:=1) (v := .i 0) rfl fun u C39 S=>aza<|ajS _ _<|aAU ?_;exact J6 e.kind 0 e.index e.depth e.node e.color _ _ (by have hk:=EO; rw[Cc]; unfold bZ.named; simp[bn.key,show e.kind=2 from by simpa using hk]) (he.2.2.2.2.below S.E) S.sn
 refine aAi<|VZ _ _<|azc fun _ akb=>apB S 2 [] [(13,.bool ((e.kind)==5))] fun S=>aza (akb _ _ ?_);refine azC S (fun JO=>?_) (fun JO=>?_)
 ·refine aAU<|OD _ _<|azc fun _ adx=>apB S 2 [] [(21,.agg #[.u 0,.u 0,.u 0,.u 0]),(22,.q b2 51)] fun S=>azH S 0 (off:=51) (cs:=[.u 0,.u 0,.u 0,.u 0]) rfl fun u C43 S=>aza<|adx _ _<|aAU ?_;exact J6 e.kind e.id e.index e.depth e.node bC.none _ _ (by have hk:=JO; rw[Cc]; unfold bZ.named; simp[bn.key,show e.kind=5 from by simpa using hk]) (he.2.2.2.2.below S.E) S.sn
 refine aAi<|zG _ _<|aAU<|zD _ _<|azX fun _ agK=>azc fun _ adK=>apB S 1 [] [(2,.z)] fun S=>aza<|adK _ _<|Sx.UD S results98 ?_;exact⟨aN (by unfold bZ.named; rw[azG (show ¬(e.key.kind=1)from by simpa[bn.key]using hc19)]; rw[azG (show ¬(e.key.kind=2)from by simpa[bn.key]using EO)]; rw[azG (show ¬(e.key.kind=3)from by simpa[bn.key]using zL)]; rw[azG (show ¬(e.key.kind=4)from by simpa[bn.key]using hc25)]; rw[azG (show ¬(e.key.kind=5)from by simpa[bn.key]using JO)]),S.E⟩
def ae5(s:aJ)(e:bn)(code:Int)(t:aJ):Prop:=
 (match mF (keys s.ns) e.key with | .error n=>code=n | .ok l=>code=0∧keys t.ns=l∧t.bg=if e.kind=5 then e.color else s.bg)∧t.w=s.w∧t.h=s.h
theorem Ez(l:List aj)(id:Int):(wM (keys l) id = -1∧nC (keys l) id=none)∨∃i:Nat,wM (keys l) id=(i:Int)∧nC (keys l) id=some i∧i<l.length:=by
 unfold wM;cases h:nC (keys l) id with
 | none=>exact .inl ⟨rfl,rfl⟩
 | some i =>
  obtain⟨hi,_⟩:=Ic h;exact .inr ⟨i,rfl,rfl,by simpa using hi⟩
theorem ahE{w0 w:World}{a:Act}{n:Nat}{l:List (Nat×Value)}{b:Nat}{A:List Value}{vs:List Sx.eX}(S:Sx.St w0 a w n l [(b,A)] vs){v:Value}{m:Nat}{xs:List Value}(ho:w.ownsRow w0.heap.size 38 47 v m xs)(hb:v.ownBlock≠some b):Sx.Rw w0 w [(b,A)] [⟨38,47,v,m,xs⟩]:=by
 refine⟨fun r hr=>by obtain rfl:=aAb.1 hr; exact ho,fun c hc=>?_,?_⟩
 ·unfold Sx.Ob at hc;simp only[aAu,aAQ,aB6,List.filterMap_nil,aAl,aAb]at hc;rcases hc with rfl | hc
  ·exact(S.bx 0).1
  cases hv:v.ownBlock with
  | none=>rw[hv]at hc; cases hc
  | some g=>rw[hv]at hc; obtain rfl:=aAb.1 hc; exact(Sx.iL ho hv).2
 unfold Sx.Ob;cases hv:v.ownBlock with
 | none=>simp[hv]
 | some g=>simp[hv]; intro e; rw[e]at hb; exact hb hv
theorem alN{base:Nat}{bl:List (Nat×List Value)}{r:Sx.Row}{rs:List Sx.Row}{F:World→Prop}{w:World}(h:Sx.Ow base (Sx.Ob bl (r::rs)) F w):Sx.Ow base (Sx.Ob bl rs) F w:=
 h.mono fun k hk=>⟨hk.1,fun hm=>hk.2 (by
  rcases aAl.1 hm with h | h
  ·exact aBM _ h
  ·refine aBt _ ?_
   rw[aB6]
   cases r.v.ownBlock
   ·exact h
   ·exact aAT _ h)⟩
theorem ae6{w:World}{B:Nat}{v:Value}{m:Nat}{L:List aj}(ho:w.ownsRow B 38 47 v m (L.flatMap aj.cells))(hm:m=L.length):Sx.On (fun i=>v.ownBlock=some i) (Sx.nZ 38 47 aj.cells B v L) w:=fun w' hs hb =>
 aAj (Sx.jV (fun _=>rfl) (Sx.l9 ho fun g hg=>hb g (Sx.iL ho hg).2 hg) hm rfl)
theorem alO{w0 w:World}{bl:List (Nat×List Value)}{v:Value}{m:Nat}{L:List aj}{rs:List Sx.Row}(R:Sx.Rw w0 w bl (⟨38,47,v,m,L.flatMap aj.cells⟩::rs))(hm:m=L.length):Sx.Ow w0.heap.size (Sx.Ob bl rs) (Sx.nZ 38 47 aj.cells w0.heap.size v L) w:=by
 have ho:=R.own _ azV;refine(ae6 ho hm).mono fun i hi=>⟨(Sx.iL ho hi).1,fun hmem=>?_⟩;have hap:=R.apart;unfold Sx.Ob at hap hmem;rw[aB6,show(⟨38,47,v,m,L.flatMap aj.cells⟩:Sx.Row).v.ownBlock=some i from hi]at hap;have hd:=aBd.1 hap;rcases aAl.1 hmem with h | h
 ·exact hd.2.2 i h i (by simp) rfl
 exact(aBN.1 hd.2.1).1 h
theorem ae7{w0 w:World}{bl:List (Nat×List Value)}{a:Option Addr}{n c:Nat}{xs:List Value}{rs:List Sx.Row}(R:Sx.Rw w0 w bl (⟨38,47,.slice a n c,n,xs⟩::rs))(hn:0<n):∃g,a=some ⟨g,0,none⟩∧∀p∈bl,p.1≠g:=by
 obtain⟨g,rfl⟩:=RP (R.own _ azV) hn;exact⟨g,rfl,(R.range azV rfl 0 (cs:=[]) rfl).2.2⟩
theorem ae8{g i m k:Nat}(h:m≠i):Sx.uo (some ⟨g,0,none⟩) i m k=some ⟨g,0+i*k,none⟩:=by
 unfold Sx.uo; rw[azG h];show some ((⟨g,0,none⟩:Addr).add (i*k))=_;congr 1;unfold Addr.add; split<;>simp_all
theorem ae9(l:List aj)(i j:Nat):keys (l.take i++l.drop j)=Ry (keys l) i j:=by unfold keys Ry; simp
theorem Y4{P:aj→Prop}{l:List aj}(hl:∀n∈l,P n)(i j:Nat):∀n∈l.take i++l.drop j,P n:=fun n hn=>by
 rcases aAl.1 hn with h | h
 ·exact hl n (aB5 h)
 exact hl n (List.mem_of_mem_drop h)
theorem afa{w0 w:World}{b:Nat}{A:List Value}{v:Value}{m:Nat}{xs:List Value}{F:World→Prop}(h:Sx.On (fun i=>w0.heap.size≤i∧i≠b∧v.ownBlock≠some i) F w):Sx.Ow w0.heap.size (Sx.Ob [(b,A)] [⟨38,47,v,m,xs⟩]) F w:=
 h.mono fun i hi=>⟨hi.1,fun hm=>by
  unfold Sx.Ob at hm
  simp only[aAu,aAQ,aB6,List.filterMap_nil,aAl,aAb]at hm
  rcases hm with rfl | hm
  ·exact hi.2.1 rfl
  ·cases hv:v.ownBlock with
   | none=>rw[hv]at hm; cases hm
   | some g=>rw[hv]at hm; obtain rfl:=aAb.1 hm; exact hi.2.2 hv⟩
theorem abv{B b:Nat}{u1 u2 u3:World}{m:aJ}(h:m.own B u1)(hE:Ext u1 u2)(hC:Ch b u2 u3)(hb:b<B∨u1.heap.size≤b) :
  m.own B u3∧m.s.ownBlock≠some b∧Sx.On (fun i=>B≤i∧i≠b∧m.s.ownBlock≠some i) (fun W=>∀n∈m.ns,n.pO B W) u3:=by
 have hr2:=Sx.dL h.row hE;have hob:m.s.ownBlock≠some b:=fun e=>by have:=Sx.iL h.row e; omega
 have hn:Sx.On (fun i=>B≤i∧i≠b∧m.s.ownBlock≠some i) (fun W=>∀n∈m.ns,n.pO B W) u3:=fun w' hs hk =>
  h.nodes w' (az3 (az3 hE.size hC.size) hs) fun k h1 h2=>by
   have hkb:k≠b:=by omega
   have h3:k<u2.heap.size:=aAa h1 hE.size
   exact((hk k (aAa h3 hC.size) ⟨h2.1,hkb,h2.2⟩).trans (hC.block k h3 fun e=>hkb (azR e))).trans (hE.block k h1)
 exact⟨⟨Sx.l9 hr2 fun g hg=>hC.block g (Sx.iL hr2 hg).2 fun e=>hob (hg.trans e),hn.mono fun i hi=>⟨hi.1,hi.2.2⟩⟩,hob,hn⟩
theorem own_base{B B' b:Nat}{u:World}{m:aJ}(hB:B'≤B)(h:m.own B u∧m.s.ownBlock≠some b∧Sx.On (fun i=>B≤i∧i≠b∧m.s.ownBlock≠some i) (fun W=>∀n∈m.ns,n.pO B W) u) :
  m.own B' u∧m.s.ownBlock≠some b∧Sx.On (fun i=>B'≤i∧i≠b∧m.s.ownBlock≠some i) (fun W=>∀n∈m.ns,n.pO B' W) u:=
 ⟨⟨aY h.1.row hB,(h.1.nodes.mono fun i hi=>⟨az3 hB hi.1,hi.2⟩).imp fun _ k n hn=>Ov (k n hn) hB⟩,h.2.1,(h.2.2.mono fun i hi=>⟨az3 hB hi.1,hi.2⟩).imp fun _ k n hn=>Ov (k n hn) hB⟩
def Xx(base:Nat)(K:Nat)(s:aJ)(e:bn)(code:Int)(t:aJ)(w:World):Prop:=
 (t.key,code)=fB s.key e.key∧fU base t.s t.ns w∧dJ K w t∧∀n∈t.ns,n.zX K
theorem rO{base:Nat}{s:aJ}{e:bn}{code:Int}{w:World}(h:fB s.key e.key=(.zero,code)):Xx base K s e code .zero w:=
 ⟨h.symm,aAd (Sx.jV (f:=aj.cells) (L:=[]) (fun _=>rfl) ⟨rfl,.inl ⟨rfl,rfl⟩⟩ rfl rfl) (fun _ _ _ n hn=>by cases hn),Ie w,fun n hn=>(by cases hn)⟩
theorem Jf{l:List aQ}{e:bZ}{n:Int}(h:mF l e = .error n):n≠0:=by
 unfold mF mD at h;(repeat' split at h)<;>first | (cases h; decide) | cases h
end
section
open Go.RowKit
variable{K:Nat}
structure HK where
 ss:List bD
 es:List bZ
 k:Nat
def HK.now(h:HK):bD:=(h.ss[h.k]?).getD .zero
noncomputable def HK.put(h:HK)(e:bZ):HK×Int:=if (fB h.now e).2=0 then (⟨h.ss.take (h.k+1)++[(fB h.now e).1],h.es.take h.k++[e],h.k+1⟩,0)else (h,(fB h.now e).2)
noncomputable def HK.app(h:HK)(e:bZ):HK×Int:=if h.k=256 then (h,5)else h.put e
def HK.undo(h:HK):HK×Int:=if h.k=0 then (h,20)else (⟨h.ss,h.es,h.k-1⟩,0)
def HK.redo(h:HK):HK×Int:=if h.k=h.es.length then (h,20)else (⟨h.ss,h.es,h.k+1⟩,0)
structure HK.Ok (h:HK):Prop where
 hs:Hs h.ss h.es
 k:h.k≤h.es.length
 most:h.es.length≤256
theorem HK.Ok.at{h:HK}(o:h.Ok):h.ss[h.k]?=some h.now:=by
 have:=o.hs.len;have:=o.k;unfold HK.now;rw[List.getElem?_eq_getElem (by omega)]; rfl
theorem HK.Ok.put{h:HK}(o:h.Ok)(hk:h.k≠256)(e:bZ):(h.put e).1.Ok:=by
 unfold HK.put;have hl:=o.k;have hm:=o.most;split
 ·rename_i ha;exact⟨Hs.put o.hs o.at (Prod.ext rfl ha),(by show h.k+1≤(h.es.take h.k++[e]).length; simp; omega),(by show(h.es.take h.k++[e]).length≤256; simp; omega)⟩
 exact o
theorem HK.Ok.undo{h:HK}(o:h.Ok):h.undo.1.Ok:=by
 unfold HK.undo;have:=o.k;split
 ·exact o
 exact⟨o.hs,(by show h.k-1≤h.es.length; omega),o.most⟩
theorem HK.Ok.redo{h:HK}(o:h.Ok):h.redo.1.Ok:=by
 unfold HK.redo;have:=o.k;split
 ·exact o
 exact⟨o.hs,(by show h.k+1≤h.es.length; omega),o.most⟩
structure HD where
 sa:Option Addr
 sc:Nat
 ss:List aJ
 ea:Option Addr
 ec:Nat
 es:List bn
 k:Nat
def HD.cells(H:HD):List Value:=[.slice H.sa H.ss.length H.sc,.slice H.ea H.es.length H.ec,.i H.k,.bool true]
def HD.key(H:HD):HK:=⟨H.ss.map aJ.key,H.es.map bn.key,H.k⟩
def HD.row(K:Nat)(H:HD)(W:World):Prop:=(aI 7 aJ.cells W (.slice H.sa H.ss.length H.sc) H.ss∧∀s∈H.ss,dJ K W s)∧aI 55 bn.cells W (.slice H.ea H.es.length H.ec) H.es∧∀e∈H.es,iF K W e
structure HD.Ok (K:Nat) (H:HD):Prop where
 k:H.key.Ok
 s:∀s∈H.ss,∀n∈s.ns,n.zX K
 e:∀e∈H.es,e.node.zX K
abbrev HD.mem (K c b:Nat)(H:HD)(w:World):Prop:=Sx.On (fun i=>c≤i∧i≠b) (H.row K) w
theorem HD.Ok.len{H:HD}(h:H.Ok K):H.ss.length=H.es.length+1:=by have:=h.k.hs.len; unfold HD.key at this; simpa using this
theorem HD.Ok.le{H:HD}(h:H.Ok K):H.k≤H.es.length∧H.es.length≤256:=by
 have h1:=h.k.k;have h2:=h.k.most;unfold HD.key at h1 h2;simp only[aA1]at h1 h2;exact⟨h1,h2⟩
theorem HD.Ok.lt{H:HD}(h:H.Ok K):H.k<H.ss.length:=by have:=h.len; have:=h.le; omega
theorem HD.Py{H:HD}(hk:H.k<H.ss.length):H.key.now=(H.ss[H.k]).key:=by
 unfold HK.now HD.key;simp only[List.getElem?_map,List.getElem?_eq_getElem hk]; rfl
theorem HD.Ok.val{H:HD}(h:H.Ok K){s:aJ}(hs:s∈H.ss):s.key.valid=true:=h.k.hs.val _ (az9.2 ⟨s,hs,rfl⟩)
theorem TY{s:aJ}(h:s.key.valid=true):s.ns.length≤64:=by
 have:=(bD.nD.1 h).2.1;rwa [show s.key.ns.length=s.ns.length from aA1 ..]at this
theorem HD.Ok.put{H:HD}(h:H.Ok K)(hk:H.k≠256){t:aJ}{d:bn}{e:bZ}(ha:(t.key,(0:Int))=fB (H.ss[H.k]'h.lt).key e)(hd:d.key=e)(ht:∀n∈t.ns,n.zX K)(hde:d.node.zX K)(sa ea:Option Addr)(sc ec:Nat) :
  HD.Ok K ⟨sa,sc,H.ss.take (H.k+1)++[t],ea,ec,H.es.take H.k++[d],H.k+1⟩∧(HD.key ⟨sa,sc,H.ss.take (H.k+1)++[t],ea,ec,H.es.take H.k++[d],H.k+1⟩,(0:Int))=H.key.put e:=by
 rw[←HD.Py h.lt]at ha;have e1:(HD.key ⟨sa,sc,H.ss.take (H.k+1)++[t],ea,ec,H.es.take H.k++[d],H.k+1⟩,(0:Int))=H.key.put e:=by
  unfold HK.put;rw[←ha];simp[HD.key,hd]
 refine⟨⟨?_,fun s hs=>?_,fun x hx=>?_⟩,e1⟩
 ·have:=h.k.put hk e;rw[←e1]at this;exact this
 ·rcases aAl.1 hs with hs | hs
  ·exact h.s s (aB5 hs)
  rw[aAb.1 hs]; exact ht
 rcases aAl.1 hx with hx | hx
 ·exact h.e x (aB5 hx)
 rw[aAb.1 hx]; exact hde
theorem HK.afb{h:HK}{t:bD}{n:Int}{e:bZ}(ha:(t,n)=fB h.now e)(hn:n≠0):(h,n)=h.put e:=by
 unfold HK.put;rw[←ha,azG hn]
theorem HD.ahF{H:HD}{B:Nat→Prop}{b:Nat}{w:World}{t:aJ}{d:bn}{sa ea:Option Addr}{sc ec:Nat}(hm:Sx.On (fun i=>B i∧i≠b) (H.row K) w)
  (hr:Sx.On (fun i=>B i∧i≠b) (fun W=>aI 7 aJ.cells W (.slice sa (H.ss.take (H.k+1)++[t]).length sc) (H.ss.take (H.k+1)++[t])) w) (ht:Sx.On (fun i=>B i∧i≠b) (fun W=>dJ K W t) w)
  (hr2:Sx.On (fun i=>B i∧i≠b) (fun W=>aI 55 bn.cells W (.slice ea (H.es.take H.k++[d]).length ec) (H.es.take H.k++[d])) w) (hd:Sx.On (fun i=>B i∧i≠b) (fun W=>iF K W d) w) :
  Sx.On (fun i=>B i∧i≠b) (HD.row K ⟨sa,sc,H.ss.take (H.k+1)++[t],ea,ec,H.es.take H.k++[d],H.k+1⟩) w:=by
 refine aAF (aAd hm (aAd hr (aAd ht (aAd hr2 hd)))) fun W ⟨⟨⟨_,o1⟩,_,o2⟩,q1,q2,q3,q4⟩=>⟨⟨q1,fun s hs=>?_⟩,q3,fun x hx=>?_⟩
 ·rcases aAl.1 hs with hs | hs
  ·exact o1 s (aB5 hs)
  rw[aAb.1 hs]; exact q2
 rcases aAl.1 hx with hx | hx
 ·exact o2 x (aB5 hx)
 rw[aAb.1 hx]; exact q4
theorem HD.Pz{H:HD}{c b:Nat}{w w':World}(hm:H.mem K c b w)(hc:Ch b w w'):H.mem K c b w':=fun w2 hs hk=>hm w2 (az3 hc.size hs) fun i hi hB=>(hk i (aAa hi hc.size) hB).trans (hc.block i hi (fun e=>by simp only[azK]at e; exact hB.2 e))
theorem MI{l m:List ak}(h:l.map ak.key=m.map ak.key)(hf:∀p∈l,p.t.fit K)(hK:K≤10000)(hm:∀p∈m,p.lim):∀p∈l,p.lim:=fun p hp=>by
 have hq:p.key∈m.map ak.key:=h▸az9.2 ⟨p,hp,rfl⟩;obtain⟨q,hq,e⟩:=az9.1 hq;have hl:=hm q hq;have e1:=azT (fun x:jc=>x.stops.length) e;have e2:=azT (fun x:jc=>x.img.l.length) e;exact⟨(show q.stops.length=p.stops.length from e1)▸hl.1,(show q.img.l.length=p.img.l.length from e2)▸hl.2.1,(hf p hp).up (by omega)⟩
theorem Y5{n m:aj}(h:n.key=m.key)(hf:n.RS K)(hm:m.lim):n.lim:=by
 have e1:n.clip.length=m.clip.length:=azT (fun x:aQ=>x.clip.length) h;have e2:n.path.length=m.path.length:=azT (fun x:aQ=>x.path.length) h;have e3:n.fill.map ak.key=m.fill.map ak.key:=azT aQ.fill h;have e4:n.stroke.map ak.key=m.stroke.map ak.key:=azT aQ.stroke h;have e5:n.style.dash.length=m.style.dash.length:=azT (fun x:aQ=>x.style.dash.length) h;have e6:n.img.l.length=m.img.l.length:=azT (fun x:aQ=>x.img.l.length) h;have e7:n.fill.length=m.fill.length:=by simpa using azT List.length e3
 have e8:n.stroke.length=m.stroke.length:=by simpa using azT List.length e4
 obtain⟨k1,k2,k3,k4,k5,k6,k7,k8,k9⟩:=hm;obtain⟨f1,f2,f3,f4,f5⟩:=hf;exact⟨f1.up (by omega),by omega,by omega,by omega,MI e3 f2 f5 k5,by omega,by omega,MI e4 f3 f5 k8,by omega⟩
theorem afc{l m:List aj}(h:l.map aj.key=m.map aj.key)(hf:∀n∈l,n.RS K)(hm:∀n∈m,n.lim):∀n∈l,n.lim:=fun n hn=>by
 have hq:n.key∈m.map aj.key:=h▸az9.2 ⟨n,hn,rfl⟩;obtain⟨q,hq,e⟩:=az9.1 hq;exact Y5 e.symm (hf n hn) (hm q hq)
end
section
open Go.RowKit
variable{α:Type}{K base:Nat}{w w':World}{e0:TypeId}
def Sp(e0:TypeId)(w w':World):Prop:=w.heap.size≤w'.heap.size∧∀(g:Nat) (cur:Array Value) (e:TypeId),e≠e0→w.heap[g]?=some (.cells cur e (0,0))→w'.heap[g]?=w.heap[g]?
theorem Ce{k n:Nat}{e:TypeId}{v:Value}(he:e≠e0)(h:Sx.Ty e k base v n w)(hs:Sp e0 w w'):Sx.Ty e k base v n w':=by
 rcases h with h | ⟨g,cap,cur,h1,h2,h3,h4⟩
 ·exact .inl h
 exact .inr ⟨g,cap,cur,h1,h2,(hs.2 g cur e he h3).trans h3,h4⟩
theorem Aj{k:Nat}{e:TypeId}{f:α→List Value}{v:Value}{L:List α}(he:e≠e0)(h:aI k f w v L)(ht:Sx.Ty e k base v L.length w)(hs:Sp e0 w w'):aI k f w' v L:=by
 obtain⟨a,cap,rfl,hm,hc⟩:=h;refine⟨a,cap,rfl,hm,?_⟩;rcases hc with hc | ⟨b,o,rfl,hlt,hl,hcell⟩
 ·exact .inl hc
 rcases ht with h0 | ⟨g,cap',cur,h1,h2,h3,h4⟩
 ·have hL:=aAZ h0;subst hL;exact .inr ⟨b,o,rfl,aAa hlt hs.1,hl,fun i hi=>absurd hi (Nat.not_lt_zero _)⟩
 simp only[aAg,azK,aBI,and_true,true_and]at h1;obtain⟨⟨rfl,rfl⟩,rfl⟩:=h1;exact .inr ⟨b,0,rfl,aAa hlt hs.1,hl,fun i hi j hj=>(World.cell?_of_block (a:=⟨b,0+i*k+j,none⟩) (hs.2 b cur e he h3)).trans (hcell i hi j hj)⟩
theorem Y7{k:Nat}{e:TypeId}{f:α→List Value}{v:Value}{L:List α}(he:e≠e0)(h:Sx.nZ e k f base v L w)(hs:Sp e0 w w'):Sx.nZ e k f base v L w':=⟨Aj he h.1 h.2 hs,Ce he h.2 hs⟩
theorem Jg{e:TypeId}{f:α→Value}{v:Value}{L:List α}(he:e≠e0)(h:dD f w v L)(ht:Sx.Ty e 1 base v L.length w)(hs:Sp e0 w w'):dD f w' v L:=eF (Aj he (fE h) ht hs)
def Odd(e0:TypeId):Prop:=119≠e0∧202≠e0∧178≠e0∧133≠e0∧163≠e0∧3≠e0∧38≠e0
instance:Decidable (Odd e0):=by unfold Odd; infer_instance
theorem DJ{r:bI}(he:Odd e0)(h:r.pO base w)(hs:Sp e0 w w'):r.pO base w':=⟨⟨Jg he.1 h.1.1 h.2.1 hs,Jg he.1 h.1.2 h.2.2 hs⟩,Ce he.1 h.2.1 hs,Ce he.1 h.2.2 hs⟩
theorem afd{t:bG}(he:Odd e0)(h:t.pO base w)(hs:Sp e0 w w'):t.pO base w':=⟨DJ he h.1 hs,DJ he h.2.1 hs,DJ he h.2.2.1 hs,DJ he h.2.2.2.1 hs,DJ he h.2.2.2.2.1 hs,DJ he h.2.2.2.2.2 hs⟩
theorem afe{p:ak}(he:Odd e0)(h:p.pO base w)(hs:Sp e0 w w'):p.pO base w':=by
 obtain⟨ho,t1,t2,ht⟩:=h;have ht':=afd he ht hs;refine⟨?_,Ce he.2.1 t1 hs,Ce he.2.2.1 t2 hs,ht'⟩;unfold ak.ok at *;simp only[dB.ok]at *;obtain⟨a1,a2,a3,a4,a5,a6,a7,a8,a9,a10⟩:=ho;exact⟨a1,a2,a3,a4,Aj he.2.1 a5 t1 hs,a6,a7,⟨a8.1,a8.2.1,Aj he.2.2.1 a8.2.2 t2 hs⟩,a9,ht'.ok⟩
theorem MJ{v:Value}{l:List ak}(he:Odd e0)(h:jY base w v l)(hs:Sp e0 w w'):jY base w' v l:=⟨Y7 he.2.2.2.1 h.1 hs,fun p hp=>afe he (h.2 p hp) hs⟩
theorem ahG{n:aj}(he:Odd e0)(h:n.pO base w)(hs:Sp e0 w w'):n.pO base w':=by
 obtain⟨ho,t,c,p,f,s,d,m⟩:=h;have t':=afd he t hs;have f':=MJ he f hs;have s':=MJ he s hs;refine⟨?_,t',Ce he.2.2.2.2.1 c hs,Ce he.2.2.2.2.1 p hs,f',s',Ce he.2.2.2.2.2.1 d hs,Ce he.2.2.1 m hs⟩;unfold aj.ok at *;simp only[dB.ok,aS.ok]at *;obtain⟨h1,h2,h3,h4,h5,h6,h7,h8,h9,h10,⟨s1,s2,s3,s4,s5,s6,s7⟩,h12,⟨i1,i2,i3⟩,JY⟩:=ho;exact⟨h1,h2,h3,t'.ok,⟨Aj he.2.2.2.2.1 h5.1 c hs,h5.2⟩,h6,h7,⟨Aj he.2.2.2.2.1 h8.1 p hs,h8.2⟩,h9,f'.ok,⟨s1,s2,s3,s4,Jg he.2.2.2.2.2.1 s5 d hs,s6,s7⟩,s'.ok,⟨i1,i2,Aj he.2.2.1 i3 m hs⟩,JY⟩
theorem abw{v:Value}{l:List aj}(he:Odd e0)(h:Dp base v l w)(hs:Sp e0 w w'):Dp base v l w':=⟨Y7 he.2.2.2.2.2.2 h.1 hs,fun n hn=>ahG he (h.2 n hn) hs⟩
open Go.Sx Go.Rel in
theorem _root_.Go.Sx.abx{P:Program}{w:World}{os:List Oper}{i:Nat}{o:Oper}{ρ:Operand→Value}(ho:os[i]?=some o)(hs:Std ρ)(l:List (Nat×Value))(hl:∀q v,l.lookup q=some v→ρ (.tmp q)=v)(A:List Value)(ty:TypeId){Post:Value→World→Prop}(hT:∀b w',w.heap.size≤b→w'.heap[b]?=some (.cells A.toArray ty (0,0))→Bx w' b A.toArray→Ext w w'→Post (.pointer (some ⟨b,0,Option.none⟩)) w')
  (hx:∀r,((os[i]?).bind fun o=>wJ P r [o] l).map (fun q=>(q.1,q.2.1,q.2.2.1,q.2.2.2.isSome))=some (A,ty,shV Option.none r,true):=by intro r; kernel_rfl):Does P o ρ w Post:=by
 have hx:=hx w.heap.size;rw[ho,aBB]at hx;unfold wJ at hx;simp only at hx;split at hx
 ·rename_i A' ty' k' hg hav hev;split at hx
  ·rename_i v hv;simp only[aAv,azK,azP]at hx;obtain⟨rfl,rfl,rfl,hd⟩:=hx;simp only[aAz]at hav;have hH:Holds ρ (lift l):=fun q x hq=>by
    rw[jH]at hq;cases h2:l.lookup q with
    | none=>simp[h2]at hq
    | some u =>
     simp only[h2,aAv,azK]at hq;subst hq;rw[hl q u h2]; rfl
   have hc:execOp ρ o=execOp (yA (lift l) []) o:=by
    refine execOp_congr o (fun cs b e1=>by rw[e1]at hav; cases hav.1) fun x hx=>?_;have h2:=hav.2;simp only[aA3,aBV]at h2;obtain⟨z,hz⟩:=aAN.1 (h2 x hx);rw[gV hs (ig hH o x hx) (p:=[]) rfl hz];simp[yA,hz]
   have hv':ev0 P k'=some (.value (shV Option.none w.heap.size)):=by
    unfold iQ at hv;split at hv
    ·rename_i h; obtain h2:=azR hv; rw[h]; simp only[EP.val.injEq]at h2; rw[h2]
    ·cases hv
    cases hv
   have hrun:(execOp ρ o).run P w = .ok (.value (shV Option.none w.heap.size)) (w.alloc (.cells A'.toArray ty')):=by rw[hc,mX hev,nN hv']
   unfold Does;rw[hrun];exact hT _ _ (azJ _) (by unfold World.alloc; exact Array.getElem?_push_size) (Gu _ _ _) (aF _ _)
  simp at hx
 simp at hx
end
section
open Go.RowKit
variable{α:Type}{K:Nat}
theorem _root_.Go.Sx.On.ch{B:Nat→Prop}{F:World→Prop}{w w':World}{x:Nat}(h:Sx.On B F w)(hc:Ch x w w')(hx:¬B x):Sx.On B F w':=fun w2 hs hk =>
 h w2 (az3 hc.size hs) fun i hi hB=>(hk i (aAa hi hc.size) hB).trans (hc.block i hi (fun e=>by simp only[azK]at e; exact hx (e▸hB)))
theorem apV{w:World}{b:Nat}{A:Array Value}(h:Bx w b A):Sx.On (fun i=>i=b) (fun W=>Bx W b A) w:=fun w' hs hk =>
 have e:=hk b h.1 rfl
 ⟨aAa h.1 hs,fun i=>by rw[World.cell?_of_block (a:=⟨b,i,none⟩) e]; exact h.2.1 i,fun i=>by rw[World.frozen?_of_block (a:=⟨b,i,none⟩) e]; exact h.2.2 i⟩
theorem auS:iI prog 44 65 (.agg aJ.zero.cells.toArray) 7 48:=⟨underlying44,info_parts (by kernel_rfl),rfl,by decide⟩
theorem auT:iI prog 45 42 (.agg (bn.cells ⟨0,0,0,0,bK,.none⟩).toArray) 55 696:=⟨underlying45,info_parts (by kernel_rfl),rfl,by decide⟩
theorem apW{base b:Nat}{e0:TypeId}{A:Array Value}{fz:Nat×Nat}{v:Value}{l:List aj}{w:World}(he:Odd e0)(h:fU base v l w)(hb:w.heap[b]?=some (.cells A e0 fz)):Sx.On (fun k=>base≤k∧k≠b) (Dp base v l) w:=fun w2 hs hk=>by
 have hbw:b<w.heap.size:=(Array.getElem?_eq_some_iff.1 hb).1;obtain⟨w3,hw3⟩:∃z:World,z={w2 with heap:=w2.heap.setIfInBounds b (.cells A e0 fz)}:=⟨_,rfl⟩;have hg:∀g,w3.heap[g]?=if g=b then some (.cells A e0 fz)else w2.heap[g]?:=fun g=>by
  rw[hw3,Array.getElem?_setIfInBounds];by_cases e:b=g
  ·rw[azI e,azI e.symm,azI (by omega)]
  rw[azG e,azG (fun k=>e k.symm)]
 have hsz:w3.heap.size=w2.heap.size:=by rw[hw3]; simp
 have h3:Dp base v l w3:=h w3 (by omega) fun k hk1 hB=>by
  rw[hg];split
  ·rename_i e; subst e; exact hb.symm
  rename_i e; exact hk k hk1 ⟨hB,e⟩
 refine abw he h3 ⟨by omega,fun g cur e hne hgc=>?_⟩;rw[hg]at hgc ⊢;split at hgc
 ·cases hgc; exact absurd rfl hne
 rename_i e; rw[azG e]
theorem alP{base c:Nat}{w:World}{a:Option Addr}{q:aj}(h:fU base (.slice a 1 c) [q] w):∃g,a=some ⟨g,0,none⟩∧base≤g∧g<w.heap.size∧w.rangeAt g 0 q.cells:=by
 have h1:=(aAj h).1;obtain⟨b,o,c,hv,hb,hr⟩:=Vp.rF h1.1 (fun _=>rfl) 0 (by show 0<1; decide);rcases h1.2 with h0 | ⟨g,cap,cur,hg,h2,-⟩
 ·exact absurd h0 (by show ¬1=0; decide)
 simp only[aAg]at hv hg;have e:=hg.1.symm.trans hv.1;simp only[azK,aBI]at e;obtain⟨rfl,rfl,-⟩:=e;exact⟨g,hg.1,h2,hb,hr⟩
theorem Jh{w:World}{e:bn}(h:eu K w e.node)(hl:e.node.lim) :
  Calls prog 36 #[e.v] w fun r w'=>∃m:aj,r = .returned (bn.v {e with node:=m})∧m.cp w.heap.size w'∧m.strip=e.node.strip∧Ext w w':=by
 skip;refine aze func36 ntmps36 fun S=>azd S fun u b2 E3 hb4 S=>azd S fun u b5 E6 hb7 S=>adr S 2 [] [.mem 1 4] fun S=>azd S (fun u b9 Uw acR S=>?_);have q0:=(S.bx 0).1;have q1:=(S.bx 1).1;have q2:=(S.bx 2).1;have hEq:=S.E.size;have hold:=fun p hp=>(S.own p hp).1.1;have hsk:dJ K u (⟨0,0,.none,some ⟨b9,0,none⟩,1,[e.node]⟩:aJ):=⟨(show I64 0 by decide),(show I64 0 by decide),Sx.FI (f:=aj.cells) [e.node] (fun _=>rfl) (by simpa using S.lu 0) (by show 1≤maxLen; decide),fun n hn=>by rw[aAb.1 hn]; exact h.below S.E⟩;refine azo S (rG hsk (fun n hn=>by rw[aAb.1 hn]; exact hl) (by show 1≤100000; decide)) ?_;rintro e u ⟨m,rfl,ho,hst,-,-,-,qM⟩;obtain⟨mw,mh,mb,ma,mc,ml⟩:=m;obtain⟨n,rfl,hns⟩:=List.map_eq_singleton_iff.1 hst;have hmn:=aAF ho.cp fun _ h=>h.2 n azV;obtain⟨g,rfl,hgb,auU,hgr⟩:=alP ho.cp;refine⟨_,rfl,qM,fun S=>?_⟩;have S:=S.view auU hgr (fun p hp=>by have:=hold p hp; omega);refine adr S 4 [] [.mem 3 0] fun S=>azf S 2 rfl (fun u C13 S=>?_);have zJ:=(Sx.On.ch hmn C13 (by omega));refine adr S 1 [] [.mem 2 0] fun S=>azf S 1 rfl (fun u C16 S=>?_);have vO:=(Sx.On.ch zJ C16 (by omega));refine azq S 1 rfl (v:=bn.v {e with node:=n}) (fun S=>?_);exact⟨_,rfl,Oo vO hEq,hns,S.E⟩
theorem HD.alQ{w:World}{s m:aJ}(h:dJ K w s)(hl:∀n∈s.ns,n.lim)(hv:s.key.valid=true)(hst:m.ns.map aj.strip=s.ns.map aj.strip)(e1:m.w=s.w)(e2:m.h=s.h)(e3:m.bg=s.bg){a:Option Addr}:HD.Ok K ⟨a,1,[m],none,0,[],0⟩∧HD.key ⟨a,1,[m],none,0,[],0⟩=⟨[s.key],[],0⟩:=by
 have ek:m.key=s.key:=by unfold aJ.key; rw[e1,e2,e3]; exact azT _ (zV hst)
 have e4:HD.key ⟨a,1,[m],none,0,[],0⟩=⟨[s.key],[],0⟩:=by unfold HD.key; rw[←ek]; rfl
 refine⟨⟨?_,fun t ht n hn=>?_,fun e he=>(by cases he)⟩,e4⟩
 ·rw[e4]; exact⟨Hs.new hv,azJ _,azQ _⟩
 rw[aAb.1 ht]at hn;exact⟨fits_all hst (fun n hn=>(h.2.2.2 n hn).2) n hn,zW hst hl n hn⟩
theorem HD.ahH{w u:World}{s m:aJ}(h:dJ K w s)(hl:∀n∈s.ns,n.lim)(hst:m.ns.map aj.strip=s.ns.map aj.strip)(e1:m.w=s.w)(e2:m.h=s.h)(e3:m.bg=s.bg){c base b g:Nat}(hm:Sx.On (fun i=>base≤i∧i≠b) (Dp base m.s m.ns) u)(hx:Bx u g m.cells.toArray)(hc:c≤base)(hg:c≤g)(hgb:g≠b):HD.mem K c b ⟨some ⟨g,0,none⟩,1,[m],none,0,[],0⟩ u:=by
 refine aAF (aAd (hm.mono fun i hi=>⟨az3 hc hi.1,hi.2⟩) ((apV hx).mono fun i hi=>by subst hi; exact⟨hg,hgb⟩)) fun W ⟨q1,q2⟩=>⟨⟨Sx.FI (f:=aJ.cells) [m] (fun _=>rfl) (by simpa using q2) (by show 1≤maxLen; decide),fun t ht=>?_⟩,dI _ _ _,fun e he=>(by cases he)⟩;rw[aAb.1 ht];exact⟨e1▸h.1,e2▸h.2.1,q1.1.1,fun n hn=>⟨(q1.2 n hn).1,fits_all hst (fun n hn=>(h.2.2.2 n hn).2) n hn⟩⟩
theorem aff{w:World}{s:aJ}(h:dJ K w s)(hg:dw w)(hlim:∀n∈s.ns,n.lim) :
  Calls prog 25 #[s.v] w fun e w'=>(s.key.valid=false∧e = .returned (.tuple #[.pointer none,.i 18])∧Ext w w')∨(s.key.valid=true∧∃(b:Nat) (H:HD),e = .returned (.tuple #[.q b 0,.i 0])∧w.heap.size≤b∧Bx w' b H.cells.toArray∧H.mem K w.heap.size b w'∧(H.Ok K∧H.key=⟨[s.key],[],0⟩)∧Ext w w'):=by
 skip;refine aze func25 ntmps25 fun S=>azd S fun u b2 E3 hb4 S=>adr S 3 [] [.mem 0 0] fun S=>azp S (wP (h.below S.E) (dw.below hg S.E)) fun u E7 S=>azb S (!s.key.valid) (fun hc8 S=>?_) (fun hc8 S=>?_)
 ·refine Sx.QJ S ((.pointer none)) (.i 18) (fun S=>?_);exact .inl ⟨by simpa using hc8,rfl,S.E⟩
 have hEq:=S.E.size;have hv:s.key.valid=true:=by simpa using hc8
 refine adr S 1 [] [.mem 0 0] fun S=>azo S (rG (h.below S.E) hlim (by have:=TY hv; omega)) ?_;rintro e u ⟨m,rfl,ho,hst,hw1,hh1,hb1,Au⟩;refine⟨_,rfl,Au,fun S=>?_⟩;have zq:=(Au).size;refine azd S fun u b12 EM aae S=>azd S (fun u b15 EN vM S=>?_);have e9:=aae;have e12:=vM;have z0:=(EM).size;have z9:=(EN).size;refine Sx.QJ S (.q b15 0) (.i 0) (fun S=>?_);exact .inr ⟨hv,b15,⟨some ⟨b12,0,none⟩,1,[m],none,0,[],0⟩,rfl,by omega,S.lu 0,HD.ahH h hlim hst hw1 hh1 hb1 (Sx.On.fresh ho.cp (Ext.trans' EM EN) (by omega)) (S.lu 1) hEq (by omega) (fun e=>by have h:=S.apart; rw[aAu,aBN]at h; exact h.1 (by simp[e])),HD.alQ h hlim hv hst hw1 hh1 hb1,S.E⟩
def ApC(P:bZ→Prop):Prop:=∀{K:Nat} {w:World} {s:aJ} {e:bn},dJ K w s→dw w→iF K w e→(∀n∈s.ns,n.lim)→e.node.lim→P e.key →
 Calls prog 62 #[s.v,e.v] w fun r w'=>∃(t:aJ) (code:Int),r = .returned (.tuple #[t.v,.i code])∧Xx w.heap.size K s e code t w'∧Ext w w'
theorem Y8{f:α→List Value}{B k c m:Nat}{e:TypeId}{a:Option Addr}{L:List α}{xs:List Value}{w:World}(hf:∀x,(f x).length=k)(ho:w.ownsRow B e k (.slice a m c) m xs)(hm:m=L.length)(hx:xs=L.flatMap f):Sx.aU B (fun W=>aI k f W (.slice a L.length c) L) w:=by
 subst hm; exact Sx.kQ hf ho rfl hx
theorem afg{f:α→List Value}{k i c:Nat}{w:World}{a:Option Addr}{L:List α}(h:aI k f w (.slice a L.length c) L)(hi:i≤L.length)(hf:∀x,(f x).length=k)(h1:∀x,(f x).all (·.oneCell')=true):dP w k (.slice (Sx.uo a 0 i k) i i) i ((L.take i).flatMap f):=by
 have:=Sx.nR (Sx.KY h hi (az3 hi (Sx.kN h))) hf h1;rwa [aBa,aBk hi]at this
theorem afh{P:bZ→Prop}(hA:ApC P){w0 w:World}{b c:Nat}{H:HD}{e:bn}(hP:P e.key)(hE:Ext w0 w)(hx:Bx w b H.cells.toArray)(hb:w0.heap.size≤b)(hcb:c≤b)(hok:H.Ok K)(hm:H.mem K c b w)(hk:H.k≠256)(hg:dw w)(he:iF K w e)(hel:e.node.lim) :
  Calls prog 34 #[.q b 0,e.v] w fun r w'=>∃(H':HD) (code:Int),r = .returned (.i code)∧(H'.key,code)=H.key.put e.key∧H'.Ok K∧H'.mem K c b w'∧Ext w0 w'∧Ch b w w'∧Bx w' b H'.cells.toArray:=by
 obtain⟨sn,hxk⟩:∃z,H.ss[H.k]'hok.lt=z:=⟨_,rfl⟩;have hxm:sn∈H.ss:=hxk▸aAc _;have hle:=hok.le;have hlen:=hok.len;have hec:=Sx.kN (aAj hm).2.1;have hsc:=Sx.kN (aAj hm).1.1;refine azE func34 ntmps34 hE hx hb fun S=>azd S (fun u b2 E3 hb4 S=>?_);have hold:=fun p hp=>(S.own p hp).1.1;have lM:=S.E.size;have hbu:=(S.bx 1).1;have hwu:Ext w u:=E3;have hws:=hwu.size;refine Sx.zd2 S Tryz.f34 1 fun S iz=>Sx.delay 6 4 8 ?_;refine Sx.sF S 8 [(11,fun v w1=>∃t2:aJ,v = .tuple #[t2.v,.i (fB sn.key e.key).2]∧t2.key=(fB sn.key e.key).1∧I64 t2.w∧I64 t2.h∧fU u.heap.size t2.s t2.ns w1∧∀n∈t2.ns,n.zX K),(7,fun v w1=>∃t2:aJ,v = .tuple #[t2.v,.i (fB sn.key e.key).2]∧t2.key=(fB sn.key e.key).1∧I64 t2.w∧I64 t2.h∧fU u.heap.size t2.s t2.ns w1∧∀n∈t2.ns,n.zX K),(12,fun v w1=>∃t2:aJ,v=t2.v∧t2.key=(fB sn.key e.key).1∧I64 t2.w∧I64 t2.h∧fU u.heap.size t2.s t2.ns w1∧∀n∈t2.ns,n.zX K),(13,fun v w1=>v = .i (fB sn.key e.key).2),(5,fun v w1=>∃b,v = .q b 0∧u.heap.size≤b∧w1.heap[b]?=some (.cells (List.toArray [.i 0,.i 0,.u 0,.u 0,.u 0,.u 0,.sn]) 65 (0,0))∧Bx w1 b (List.toArray [.i 0,.i 0,.u 0,.u 0,.u 0,.u 0,.sn]))] (fun r=>[.mem 0 0,.hand 7 [],.hand 12 [],.hand 13 [],.hand 5 []]) (fun x=>[sn.v,x 11,x 7,x 12,x 13,x 5]) (fun x=>[(_,_,true,sn.v,9),(_,_,true,x 11,11)]) [[],[]] (fun x=>[(5,x 5),(12,x 12),(13,x 13)]) ⟨fun _ _ _ k h=>by obtain⟨t2,e,h1,h2,h3,h4,h5⟩:=h; exact⟨t2,e,h1,h2,h3,az1 h4 k,h5⟩,fun _ _ _ k h=>by obtain⟨t2,e,h1,h2,h3,h4,h5⟩:=h; exact⟨t2,e,h1,h2,h3,az1 h4 k,h5⟩,fun _ _ _ k h=>by obtain⟨t2,e,h1,h2,h3,h4,h5⟩:=h; exact⟨t2,e,h1,h2,h3,az1 h4 k,h5⟩,fun _ _ _ _ h=>h,fun _ w1 w2 k h=>by obtain⟨b,e,h1,h2,h3⟩:=h; exact⟨b,e,h1,(k.block b (Sx.DK h2).1).trans h2,h3.ext k⟩,trivial⟩ (fun x=>⟨by intro u hC g F; exact(TP (ev := .slice H.ea H.es.length H.ec) (r:=[.bool true]) ((S.lu 1).ext hC) (aAj ((az1 hm (Ext.trans' E3 hC)))).1.1 hok.lt hxk).mono fun e w2 h=>⟨_,h.1,rfl,h.2⟩,by intro u hC g F; exact(hA (K:=K) (s:=sn) (e:=e) ((aAj ((az1 hm (Ext.trans' E3 hC)))).1.2 sn hxm) (dw.below hg (Ext.trans' hwu hC)) (he.below (Ext.trans' hwu hC)) (fun n hn=>(hok.s sn hxm n hn).2) hel hP).mono fun e w2 h=>by obtain⟨t2,axh,rfl,aby,hb⟩:=h; exact⟨_,rfl,⟨t2,by rw[←aby.1],by rw[←aby.1],aby.2.2.1.1,aby.2.2.1.2.1,fU.le aby.2.1 hC.size,aby.2.2.2⟩,hb⟩,trivial⟩) (fun ac u x E6 F S=>?_) (hk:=fun r=>⟨trivial,trivial,trivial,trivial,trivial⟩) (hl:=[(4,[11]),(5,[7]),(6,[7]),(7,[])]) (hH:=fun x r=>⟨fun o ho ρ u hs hE hρ hV F=>by obtain⟨F11,-⟩:=F; exact Sx.kX ho hs [(11,x 11)] (azM (hρ 11 (by decide) rfl)) (x 11) (Sx.oh ho rfl rfl Ext.rfl' F11),fun o ho ρ u hs hE hρ hV F=>by obtain⟨F7,-⟩:=F; obtain⟨t2,e,h2⟩:=F7; exact Sx.kX ho hs [(7,.tuple #[t2.v,.i _])] (azM ((hρ 7 (by decide) rfl).trans e)) (t2.v) (Sx.oh ho rfl rfl Ext.rfl' ⟨t2,rfl,h2⟩),fun o ho ρ u hs hE hρ hV F=>by obtain⟨F7,-⟩:=F; obtain⟨t2,e,h2⟩:=F7; exact Sx.kX ho hs [(7,.tuple #[t2.v,.i _])] (azM ((hρ 7 (by decide) rfl).trans e)) (.i _) (Sx.oh ho rfl rfl Ext.rfl' rfl),fun o ho ρ u hs hE hρ hV F=>by exact Sx.abx ho hs [] (fun _ _ h=>by cases h) [.i 0,.i 0,.u 0,.u 0,.u 0,.u 0,.sn] 65 (fun b w' h1 h2 h3 h4=>Sx.oh ho rfl rfl h4 ⟨b,rfl,az3 hE.size h1,h2,h3⟩),trivial⟩);refine Sx.zdb S (fun S=>?_);obtain⟨F11,F7,JC,QE,F5,-⟩:=F;clear F11;clear F7;obtain⟨t,e12,htk,htw,hth,htc,htf⟩:=JC;rw[e12]at S;try rw[e12]
 rw[QE]at S;try rw[QE]
 obtain⟨v5,F5,hb5,hv5,hx5⟩:=F5;rw[F5]at S;try rw[F5]
 have S:=S.nS;have S:=S.adopt (A:=[.i 0,.i 0,.u 0,.u 0,.u 0,.u 0,.sn]) hx5 (by omega) (fun p hp=>by have:=hold p hp; omega) (fun m hm=>by cases hm);have htm:=apW (e0:=65) (by decide) htc hv5;refine azf S 0 rfl (fun u C7 S=>?_);have E8:=azg (Ext.trans' E3 E6) C7 (by have:=E3.size; omega);have E9:=azg (Ext.trans' E3 E6) C7 (by have:=E3.size; omega);have aej:=(Sx.On.ch htm C7 (by omega));refine azb S (((fB sn.key e.key).2) != 0) (fun hc13 S=>?_) (fun hc13 S=>?_)
 ·refine ay9 S (.i ((fB sn.key e.key).2)) (fun S=>?_);exact⟨H,_,rfl,HK.afb (t:=(fB sn.key e.key).1) (by rw[HD.Py hok.lt,hxk]) (by simpa using hc13),hok,((az1 hm E8)),S.E,((Ch.trans (Ch.refl b w) (Ch.aZ E9))),S.lu 2⟩
 have auV:Ext w u:=E8;have ay2:=(S.bx 2).1;have hzc:(fB sn.key e.key).2=0:=by simpa using hc13
 have hw4:=(((Ch.trans (Ch.refl b w) (Ch.aZ E9)))).size;refine Sx.zd2 S Tryz.f34 4 (fun S iz=>?_);refine Sx.Eh S 20 [(32,fun v w1=>∃m:aj,v=bn.v {e with node:=m}∧m.cp u.heap.size w1∧m.strip=e.node.strip),(33,fun v w1=>∃(m:aj) (b:Nat),v = .slice (some ⟨b,0,none⟩) 1 1∧Bx w1 b (bn.cells {e with node:=m}).toArray∧m.cp u.heap.size w1∧m.strip=e.node.strip),(34,fun v w1=>∃m:aj,w1.ownsRow u.heap.size 42 55 v (H.k+1) ((H.es.take H.k).flatMap bn.cells++bn.cells {e with node:=m})∧m.cp u.heap.size w1∧m.strip=e.node.strip)] (fun r=>[.mem 2 1,.mem 2 2,.mem 2 2,.slc 0 H.k H.k H.ec,.mem 1 0,.hand 33 [],.hand 34 [(30,.slice (Sx.uo H.ea 0 H.k 55) H.k H.k)]]) (fun x=>[x 32,x 33,x 34]) (fun x=>[(_,_,true,x 32,32)]) [[]] (fun x=>[(34,x 34),(36,.q b 1)]) ⟨fun _ _ _ k h=>by obtain⟨m,e,h1,h2⟩:=h; exact⟨m,e,az1 h1 k,h2⟩,fun _ _ _ k h=>by obtain⟨m,b,e,h1,h2,h3⟩:=h; exact⟨m,b,e,h1.ext k,az1 h2 k,h3⟩,fun _ _ _ k h=>by obtain⟨m,h1,h2,h3⟩:=h; exact⟨m,Sx.dL h1 k,az1 h2 k,h3⟩,trivial⟩ (fun x=>⟨by intro u hC g F; exact(Jh (he.2.2.2.2.below (Ext.trans' auV hC)) hel).mono fun e w2 h=>by obtain⟨m,rfl,hmc,hms,hb⟩:=h; exact⟨_,rfl,⟨m,rfl,Oo hmc hC.size,hms⟩,hb⟩,trivial⟩) (fun ac u x EN F S=>?_) (hk:=fun r=>⟨⟨azQ _,azJ _,by omega⟩,trivial,trivial,trivial⟩) (hl:=[(16,[32]),(17,[33])]) (hH:=fun x r=>⟨fun o ho ρ u hs hE hρ hV F=>by obtain⟨F32,-⟩:=F; obtain⟨m,e1,h1,h2⟩:=F32; exact Sx.Bo ho hs [(32,bn.v {e with node:=m})] (azM ((hρ 32 (by decide) rfl).trans e1)) (bn.cells {e with node:=m}) (some 1) (fun v w' hn hE2=>Sx.oh ho rfl rfl hE2 (by obtain⟨b,e2,-,h3⟩:=hn; exact⟨m,b,e2,h3,az1 h1 hE2,h2⟩)),fun o ho ρ u hs hE hρ hV F=>by obtain⟨F33,-⟩:=F; obtain⟨m,b,e1,h1,h2,h3⟩:=F33; exact Sx.H8 ho auT (hV (30,_) azV) ((hρ 33 (by decide) rfl).trans e1) (afg (f:=bn.cells) (aAj (az1 ((az1 hm E8)) hE)).2.1 hle.1 (fun _=>rfl) (fun _=>rfl)) (Sx.qJ (m:=1) (k:=55) (A:=bn.cells {e with node:=m}) h1) (by decide) (by show H.k+1≤9223372036854775807; omega) (by omega) (fun v' w' h hE2=>Sx.oh ho rfl rfl hE2 ⟨m,Sx.ownsRow_base h hE.size,az1 h2 hE2,h3⟩),trivial⟩);refine Sx.Z8 S (fun S=>?_);obtain⟨F32,F33,F34,-⟩:=F;clear F32;clear F33;obtain⟨m,ho4,hmc,hms⟩:=F34;obtain⟨a4,c4,e4⟩:=Sx.oz ho4;rw[e4]at S ho4;try rw[e4]
 have hl4:(H.es.take H.k++[({e with node:=m}:bn)]).length=H.k+1:=by rw[azL,aBa,aCs]; omega
 have hr4:=Y8 (f:=bn.cells) (L:=H.es.take H.k++[({e with node:=m}:bn)]) (fun _=>rfl) ho4 hl4.symm (by simp);refine azk S 2 rfl (fun u Vh S=>?_);have EH:=(Sx.On.ch ((az1 hm (Ext.trans' E8 EN))) Vh (by omega));have oO:=(aH ((Ch.trans (Ch.refl b w) (Ch.aZ (Ext.trans' E9 EN)))) Vh);have CW:=(Sx.On.ch ((az1 aej EN)) Vh (by omega));have uM:=(Sx.On.ch hr4 Vh (by omega));have yw:=(Sx.On.ch hmc Vh (by omega));have ay3:=(S.bx 2).1;have hw5:=(oO).size;have lM:=S.E.size;have hold:=fun p hp=>(S.own p hp).1.1;have lM:=S.E.size;refine Sx.zd2 S Tryz.f34 5 (fun S iz=>?_);refine Sx.Eh S 21 [(54,Sx.iP u.heap.size t.cells (some 1)),(55,fun v w1=>w1.ownsRow u.heap.size 65 7 v (H.k+1+1) ((H.ss.take (H.k+1)).flatMap aJ.cells++t.cells))] (fun r=>[.mem 2 0,.mem 2 2,.re 46 (.i (IntKind.i64.wrap ((H.k:Int)+1))) (.i (H.k+1:Nat)),.mem 2 2,.re 51 (.i (IntKind.i64.wrap ((H.k:Int)+1))) (.i (H.k+1:Nat)),.slc 0 (H.k+1) (H.k+1) H.sc,.mem 0 0,.new 54 t.cells (some 1) r,.hand 55 [(52,.slice (Sx.uo H.sa 0 (H.k+1) 7) (H.k+1) (H.k+1))]]) (fun x=>[x 54,x 55]) (fun x=>[]) [] (fun x=>[(55,x 55),(57,.q b 0)]) ⟨Sx.iP.mono,fun _ _ _ k h=>Sx.dL h k,trivial⟩ (fun x=>trivial) (fun ac u x Aw F S=>?_) (hN:=fun r=>⟨⟨rfl,rfl⟩,trivial⟩) (hk:=fun r=>⟨azt (by omega),azt (by omega),⟨azQ _,azJ _,by omega⟩,trivial,trivial,trivial⟩) (hl:=[(18,[54])]) (hH:=fun x r=>⟨fun o ho ρ u hs hE hρ hV F=>by obtain⟨F54,-⟩:=F; obtain⟨b,e1,-,h1⟩:=F54; exact Sx.H8 ho auS (hV (52,_) azV) ((hρ 54 (by decide) rfl).trans e1) (afg (f:=aJ.cells) (aAj (az1 EH hE)).1.1 hok.lt (fun _=>rfl) (fun _=>rfl)) (Sx.qJ (m:=1) (k:=7) (A:=t.cells) h1) (by decide) (by show H.k+1+1≤9223372036854775807; omega) (by omega) (fun v' w' h hE2=>Sx.oh ho rfl rfl hE2 (Sx.ownsRow_base h hE.size)),trivial⟩);refine Sx.Z8 S (fun S=>?_);obtain⟨F54,F55,-⟩:=F;obtain⟨b25,F54,ND,X26⟩:=F54;have S:=S.adopt (A:=t.cells) X26 (by omega) (fun p hp=>by have:=hold p hp; omega) (fun m hm=>by cases hm);obtain⟨a5,c5,e5⟩:=Sx.oz F55;rw[e5]at S F55;try rw[e5]
 have hl5:(H.ss.take (H.k+1)++[t]).length=H.k+1+1:=by rw[azL,aBa,aCs]; omega
 have hr5:=Y8 (f:=aJ.cells) (L:=H.ss.take (H.k+1)++[t]) (fun _=>rfl) F55 hl5.symm (by simp);refine azk S 3 rfl (fun u P6 S=>?_);have tK:=(Sx.On.ch ((az1 EH Aw)) P6 (by omega));have adQ:=(aH ((Ch.trans oO (Ch.aZ Aw))) P6);have wB:=(Sx.On.ch ((az1 CW Aw)) P6 (by omega));have A8:=(Sx.On.ch ((az1 uM Aw)) P6 (by omega));have GL:=(Sx.On.ch ((az1 yw Aw)) P6 (by omega));have Dj:=(Sx.On.ch hr5 P6 (by omega));refine adr S 7 [] [.mem 3 2,.re 62 (.i (IntKind.i64.wrap ((H.k:Int)+1))) (.i (H.k+1:Nat))] (hk:=⟨azt (by omega),trivial⟩) fun S=>azk S 3 rfl (fun u JJ S=>?_);have S:=S.fl;have Ba:=(Sx.On.ch tK JJ (by omega));have zu:=(aH adQ JJ);have CX:=(Sx.On.ch wB JJ (by omega));have GX:=(Sx.On.ch A8 JJ (by omega));have zx:=(Sx.On.ch GL JJ (by omega));have CV:=(Sx.On.ch Dj JJ (by omega));obtain⟨p1,p2⟩:=hok.put hk (t:=t) (d:=({e with node:=m}:bn)) (e:=e.key) (by rw[hxk]; exact Prod.ext htk hzc.symm) (by show bZ.mk _ _ _ _ m.key _=_; rw[Wj hms]; rfl) htf (Ir ⟨he.2.2.2.2.2,hel⟩ hms) a5 a4 c5 c4;refine ay9 S (.i 0) (fun S=>?_);exact⟨_,0,rfl,p2,p1,HD.ahF Ba (aBL CV fun i hi=>⟨by omega,by omega⟩) (aAF (aBL CX fun i hi=>⟨by omega,by omega⟩) fun W h=>⟨htw,hth,h.1.1,fun n hn=>⟨(h.2 n hn).1,(htf n hn).1⟩⟩) (aBL GX fun i hi=>⟨by omega,by omega⟩) (aAF (aBL zx fun i hi=>⟨by omega,by omega⟩) fun W h=>⟨he.1,he.2.1,he.2.2.1,he.2.2.2.1,h.1,(Ir ⟨he.2.2.2.2.2,hel⟩ hms).1⟩),S.E,zu,(by show Bx _ _ (List.toArray [.slice a5 (H.ss.take (H.k+1)++[t]).length c5,.slice a4 (H.es.take H.k++[({e with node:=m}:bn)]).length c4,.i (H.k+1:Nat),.bool true]); rw[hl5,hl4]; exact S.lu 3)⟩
end
end Go.Proofs.YtodpgjjgaddkeaaGreatDoor
