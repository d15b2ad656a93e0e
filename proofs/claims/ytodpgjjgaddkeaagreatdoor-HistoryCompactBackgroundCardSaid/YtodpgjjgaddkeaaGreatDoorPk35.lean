/- What decoding an encoding gives: scenes and edits. No -/
import Derived.Test.YtodpgjjgaddkeaaGreatDoorPk34
set_option maxHeartbeats 3200000
set_option maxRecDepth 100000
set_option linter.unusedVariables false
set_option linter.unusedSimpArgs false
namespace Go.Proofs.YtodpgjjgaddkeaaGreatDoor
open _root_.Go.Proofs.Tryz
section
open En
variable{K L:Nat}
theorem bH.fit.up{k k':Nat}{t:bH}(h:t.fit k)(hk:k<=k'):t.fit k':=⟨h.1.mono hk,h.2.1.mono hk,h.2.2.1.mono hk,h.2.2.2.1.mono hk,h.2.2.2.2.1.mono hk,h.2.2.2.2.2.mono hk⟩
theorem eG.up{w:World}{n:aj}(h:eG K w n)(hk:K<=L)(hL:L<=10000):eG L w n:=⟨h.1,h.2.1.up hk,λp hp=>(h.2.2.1 p hp).up hk,λp hp=>(h.2.2.2.1 p hp).up hk,aAa h.2.2.2.2.1 hk,hL⟩
theorem dL.up{w:World}{s:aH}(h:dL K w s)(hk:K<=L)(hL:L<=10000):dL L w s:=⟨h.1,h.2.1,h.2.2.1,λn hn=>(h.2.2.2 n hn).up hk hL⟩
theorem iy.up{w:World}{e:aP}(h:iy K w e)(hk:K<=L)(hL:L<=10000):iy L w e:=⟨h.1,h.2.1,h.2.2.1,h.2.2.2.1,h.2.2.2.2.up hk hL⟩
theorem abD{w:World}{e d:aP}(h:iy K w e)(h':iy K w d)(m:fF e.key=false)(m':fF d.key=false)(v:jk e.key=true->e.key.node.chk=0)(v':jk d.key=true->d.key.node.chk=0)(hb:kD e.key=kD d.key):e.key=d.key:=by
 have k:=XI h m v;have k':=XI h' m' v';unfold kD at hb;have hb:=List.append_cancel_left hb;rw[Jp,Jp]at hb;obtain⟨i1,i2,i3,i4⟩:=k.i;obtain⟨j1,j2,j3,j4⟩:=k'.i;obtain⟨e1,hb⟩:=LX i1 j1 _ _ hb;obtain⟨e2,hb⟩:=LX i2 j2 _ _ hb;obtain⟨e3,hb⟩:=LX i3 j3 _ _ hb;obtain⟨e4,hb⟩:=LX i4 j4 _ _ hb;have hn:e.key.node=d.key.node∧e.key.color=d.key.color:=by
  unfold AX at hb;by_cases hk:e.key.kind=1∨e.key.kind=4
  .have hk':d.key.kind=1∨d.key.kind=4:=e1▸hk;rw[azQ hk,azQ hk']at hb;have c1:=v (by unfold jk; simpa using hk);have c2:=v' (by unfold jk; simpa using hk');rw[show e.key.node=e.node.key from rfl,lG]at c1;rw[show d.key.node=d.node.key from rfl,lG]at c2;exact⟨(LY h.2.2.2.2.1 h'.2.2.2.2.1 c1 c2 [] [] (by rw[aAW,aAW]; exact hb)).1,(k.color Z).trans (k'.color Z).symm⟩
  have hk':¬(d.key.kind=1∨d.key.kind=4):=e1▸hk;rw[azP hk,azP hk']at hb;refine⟨(k.Zg hk).trans (k'.Zg hk').symm,?_⟩;by_cases h5:e.key.kind=5
  .have h5':d.key.kind=5:=e1▸h5;rw[azQ h5,azQ h5']at hb;exact(Tq _ _ [] [] (by rw[aAW,aAW]; exact hb)).1
  have h5':¬d.key.kind=5:=e1▸h5;exact(k.color h5).trans (k'.color h5').symm
 obtain⟨e5,e6⟩:=hn;revert e1 e2 e3 e4 e5 e6;generalize e.key=x;generalize d.key=y;intro e1 e2 e3 e4 e5 e6;cases x; cases y;simp only at e1 e2 e3 e4 e5 e6;rw[e1,e2,e3,e4,e5,e6]
theorem Ui.good{base:Nat}{w:World}{s:aX}{v:Value}{er:Int}(h:Ui base w s v er)(hv:s.valid=true):er=0∧OwnB base w v (fP.app (dV s)):=by
 rcases h with ⟨h1,h2,h3⟩ | ⟨h1,-⟩
 .exact⟨h3,h2⟩
 rw[hv]at h1; cases h1
theorem Um.good{base:Nat}{w:World}{e:bF}{v:Value}{er:Int}(h:Um base w e v er)(hm:fF e=false)(hv:jk e=true->e.node.chk=0):er=0∧OwnB base w v (fP.app (kD e)):=by
 rcases h with ⟨h1,-⟩ | ⟨h1,h2,h3,-⟩ | ⟨h1,h2,h3,h4⟩
 .rw[hm]at h1; cases h1
 .exact absurd (hv h2) h3
 exact⟨h4,h3⟩
theorem XL{s:aH}(h:s.key.valid=true):(fP.app (dV s.key)).length<=60000000:=by
 rw[nU]; have:=DL h; omega
theorem DZ{e:aP}(hv:jk e.key=true->e.key.node.chk=0):(fP.app (kD e.key)).length<=60000000:=by
 rw[nU];have:=Zf (e:=e) λhk=>by
  have:=hv (by unfold jk; show((e.kind==1)||(e.kind==4))=true; simpa using hk);rwa [show e.key.node=e.node.key from rfl,lG]at this
 unfold kD;simp only[azU,aAx,aA3];omega
end
section
open En
structure Hs (ss:List aX) (es:List bF):Prop where
 len:ss.length=es.length+1
 val:∀s∈ss,s.valid=true
 step:∀i e,es[i]?=some e->∃s t,ss[i]?=some s∧ss[i+1]?=some t∧dA s e=(t,0)
theorem Hs.new{s:aX}(h:s.valid=true):Hs [s] []:=⟨I,λt ht=>by rw[aAn.1 ht]; exact h,λi e h=>by simp at h⟩
theorem Hs.put{ss:List aX}{es:List bF}{k:Nat}{s t:aX}{e:bF}(h:Hs ss es)(hs:ss[k]?=some s)(ha:dA s e=(t,0)):Hs (ss.take (k+1)++[t]) (es.take k++[e]):=by
 obtain⟨hk,rfl⟩:=List.getElem?_eq_some_iff.1 hs;have hl:=h.len;have l1:(ss.take (k+1)).length=k+1:=by rw[aAN]; omega
 have l2:(es.take k).length=k:=by rw[aAN]; omega
 refine⟨by simp only[azU,l1,l2,aCn],λx hx=>?_,λi x hx=>?_⟩
 .rcases aAu.1 hx with hx | hx
  .exact h.val x (aBG hx)
  rw[aAn.1 hx];obtain⟨-,-,l,-,-,h5⟩:=yh ha;exact h5
 have hi:i<k+1:=by
  have:=(List.getElem?_eq_some_iff.1 hx).1;simp only[azU,l2,aCn]at this;exact this
 rcases aAH i k with h1 | h1
 .rw[List.getElem?_append_left Z,List.getElem?_take_of_lt h1]at hx;obtain⟨a,b,h2,h3,h4⟩:=h.step i x hx;exact⟨a,b,by rw[List.getElem?_append_left Z,List.getElem?_take_of_lt hi]; exact h2,by rw[List.getElem?_append_left Z,List.getElem?_take_of_lt Z]; exact h3,h4⟩
 obtain rfl:i=k:=by omega
 rw[List.getElem?_append_right Z,l2,aBK]at hx;simp only[List.getElem?_cons_zero,azT]at hx;subst hx;exact⟨_,_,by rw[List.getElem?_append_left Z,List.getElem?_take_of_lt hi]; exact hs,by rw[List.getElem?_append_right Z,l1,aBK]; rfl,ha⟩
theorem XM{s t:aX}{e:bF}(h:dA s e=(t,0)):fF e=false∧(jk e=true->e.node.chk=0):=by
 obtain⟨h1,h2,l,h3,rfl,h5⟩:=yh h;have hc:=(Oq.1 (aX.kE.1 h5).2.2).1;replace hc:∀x∈l,x.chk=0:=hc;constructor
 .have hz:aQ.zero=bM.key:=I;have hp:bD.none=⟨0,0,0,0⟩:=I;unfold bF.named at h2;unfold fF;repeat' split at h2
  all_goals simp_all
 intro hh;unfold jk at hh;simp only[aBy,az4]at hh;unfold iI at h3;rcases hh with hh | hh
 .rw[azQ hh]at h3;split at h3
  .cases h3
  simp only[aBE]at h3;exact hc _ (by rw[<-h3]; unfold agN; simp)
 rw[azP Z,azP Z,azP Z,azQ hh]at h3;cases hf:jM s.ns e.node.id with
 | none=>rw[hf]at h3; cases h3
 | some i =>
  rw[hf]at h3;simp only at h3;split at h3
  .cases h3
  simp only[aBE]at h3;obtain⟨hi,-⟩:=Aq hf;exact hc _ (by rw[<-h3]; exact List.mem_set hi ..)
theorem Hs.enc{ss:List aX}{es:List bF}(h:Hs ss es){e:bF}(he:e∈es):fF e=false∧(jk e=true->e.node.chk=0):=by
 obtain⟨i,hi,rfl⟩:=List.getElem_of_mem he;obtain⟨a,b,-,-,h3⟩:=h.step i _ (List.getElem?_eq_getElem hi);exact XM h3
def eB(e:bF):List UInt8:=fV (fP.app (kD e))
def hB(s:aX)(k:Nat)(es:List bF):List UInt8:=fV (fP.app (dV s))++(dW 10 k++(dW 10 es.length++es.flatMap eB))
end
section
open Go.RowKit Go.Sx
variable{α:Type}{K:Nat}
def alT(i j k:Int)(c:bD)(n:aj):Bool:=((((i==0)&&(j==0))&&(k==0))&&decide (c=bD.none))&&decide (n.key=aQ.zero)
variable{m b n:Nat}{w0:World}{v:Value}{xs A:List Value}{rs:List Sx.Row}{e:aP}{F:World->Prop}
theorem CW(i j k:Int)(c:bD)(n:aj):alT i j k c n=(i==0&&(j==0&&(k==0&&(n.key==aQ.zero&&c==bD.none)))):=by
 unfold alT;rw[show(n.key==aQ.zero)=decide (n.key=aQ.zero)from rfl,show(c==bD.none)=decide (c=bD.none)from rfl];ac_rfl
theorem Uu:(bM.key==aQ.zero)=true:=by rw[show bM.key=aQ.zero from rfl]; simp
set_option maxRecDepth 100000 in
set_option maxHeartbeats 3200000 in
theorem abE{w:World}(he:iy K w e) :
  Calls prog 98 #[e.v] w λr w'=>r = .returned (.bool e.key.named)∧Ext w w':=by
 skip;refine azX func98 ntmps98 (λac S=>?_);have hK1:=he.2.2.2.2.2.2.2.2.1;have hK2:=he.2.2.2.2.2.2.2.2.2;refine azn λ_ gQ=>qO S 1 e.cells λac u b2 E3 hb4 S=>azk S 1 [] [(2,.z)] λS=>azl<|gQ _ _<|az8 (λκq BN=>?_);have J6:∀(kd i j k:Int) (n:aj) (c:bD) (ac:Act) (u:World),(alT i j k c n=e.key.named)->(eG K u n)->Sx.St w ac u 48 [(1,.q b2 0),(2,.z)] [(b2,(Sx.L [.i kd,.i i,.i j,.i k]++n.cells++c.cells))] []->κq ac u:=by
  intro kd i j k n c ac u ho hn S;refine BN _ _<|azn λ_ VH=>adw S 26 [.mem 0 1,.mem 0 2,.mem 0 3,.mem 0 51,.cmp .eql 40 (.tmp 38) (.tmp 39) (.agg #[.u (c.r.toNat:Int),.u (c.g.toNat:Int),.u (c.b.toNat:Int),.u (c.a.toNat:Int)]) (.agg #[.u 0,.u 0,.u 0,.u 0]) (.bool (c=bD.none)),.mem 0 4] [(_,_,(((((i)==0)&&((j)==0))&&((k)==0))&&(decide (c=bD.none))),.bool (n.key=aQ.zero))] [(2,.bool ((((((i)==0)&&((j)==0))&&((k)==0))&&(decide (c=bD.none)))&&(decide (n.key=aQ.zero))))] ⟨λu hC g=>yw (hn.below hC) (gJ u hK1 hK2),G⟩ (hk:=⟨(aAP (λ_=>akm c bD.none _) X),G⟩) λac u E8 S=>azl<|VH _ _<|U0 S results98 ?_;exact⟨aN (by rw[<-ho]; rfl),S.E⟩
 refine azn λ_ κ9=>azk S 2 [.mem 0 0] [(4,.i e.kind)] λS=>azl<|κ9 _ _<|aAM<|az8 λ_ Ah=>aAM<|az8 λ_ OT=>aAM<|az8 λ_ Rz=>aAM<|az8 λ_ Wq=>aAM<|az8 λ_ vP=>aAM<|az8 λ_ Ib=>aAM<|az8 λ_ Ai=>az8 λ_ Oa=>azn λ_ VI=>azk S 2 [] [(5,.bool ((e.kind)==1))] λS=>azl (VI _ _ ?_);refine azM S (λhc19=>?_) (λhc19=>?_)
 .refine aA8<|Ib _ _<|aBo<|azk S 1 [] [(15,.q b2 2)] λS=>azY S 0 (off:=2) (v := .i 0) I λu y8 S=>azl<|vP _ _<|azn λ_ adx=>azk S 2 [] [(16,.agg (Sx.L [.i 0,.i 0,.i 0]++Sx.za++Sx.L [.sn,.i 0,.u 0,.i 0,.z,.z,.sn,.i 0,.sn,.i 0,.i 0,.i 0,.i 0,.sn,.i 0,.sn,.i 0,.i 0,.sn,.i 0]).toArray),(17,.q b2 4)] λS=>azR S 0 (off:=4) (cs:=(Sx.L [.i 0,.i 0,.i 0]++Sx.za++Sx.L [.sn,.i 0,.u 0,.i 0,.z,.z,.sn,.i 0,.sn,.i 0,.i 0,.i 0,.i 0,.sn,.i 0,.sn,.i 0,.i 0,.sn,.i 0])) I λu C22 S=>azl<|adx _ _<|aA8 ?_;exact J6 e.kind e.id 0 e.depth bM e.color _ _ (by have hk:=hc19; rw[CW]; unfold bF.named; simp[aP.key,Uu,show e.kind=1 from by simpa using hk]) (gJ u he.2.2.2.2.2.2.2.2.1 he.2.2.2.2.2.2.2.2.2) S.sn
 refine aAs<|Oa _ _<|az8 λ_ adY=>azn λ_ WE=>azk S 2 [] [(7,.bool ((e.kind)==4))] λS=>azl (WE _ _ ?_);refine azM S (λhc25=>?_) (λhc25=>?_)
 .refine aA8<|vP _ _<|azn λ_ au5=>azk S 2 [] [(16,.agg (Sx.L [.i 0,.i 0,.i 0]++Sx.za++Sx.L [.sn,.i 0,.u 0,.i 0,.z,.z,.sn,.i 0,.sn,.i 0,.i 0,.i 0,.i 0,.sn,.i 0,.sn,.i 0,.i 0,.sn,.i 0]).toArray),(17,.q b2 4)] λS=>azR S 0 (off:=4) (cs:=(Sx.L [.i 0,.i 0,.i 0]++Sx.za++Sx.L [.sn,.i 0,.u 0,.i 0,.z,.z,.sn,.i 0,.sn,.i 0,.i 0,.i 0,.i 0,.sn,.i 0,.sn,.i 0,.i 0,.sn,.i 0])) I λu C27 S=>azl<|au5 _ _<|aA8 ?_;exact J6 e.kind e.id e.index e.depth bM e.color _ _ (by have hk:=hc25; rw[CW]; unfold bF.named; simp[aP.key,Uu,show e.kind=4 from by simpa using hk]) (gJ u he.2.2.2.2.2.2.2.2.1 he.2.2.2.2.2.2.2.2.2) S.sn
 refine aAs<|adY _ _<|az8 λ_ adL=>azn λ_ aee=>azk S 2 [] [(9,.bool ((e.kind)==3))] λS=>azl (aee _ _ ?_);refine azM S (λuq=>?_) (λuq=>?_)
 .refine aA8<|Wq _ _<|aBo<|azk S 1 [] [(18,.q b2 2)] λS=>azY S 0 (off:=2) (v := .i 0) I λu C31 S=>azk S 1 [] [(19,.q b2 3)] λS=>azY S 0 (off:=3) (v := .i 0) I λu C32 S=>azl<|Rz _ _<|azn λ_ Oy=>azk S 1 [] [(20,.q b2 1)] λS=>azY S 0 (off:=1) (v := .i 0) I λu C34 S=>azl<|Oy _ _<|aA8 ?_;exact J6 e.kind 0 0 0 e.node e.color _ _ (by have hk:=uq; rw[CW]; unfold bF.named; simp[aP.key,show e.kind=3 from by simpa using hk]) (he.2.2.2.2.below S.E) S.sn
 refine aAs<|adL _ _<|az8 λ_ Wu=>azn λ_ au6=>azk S 2 [] [(11,.bool ((e.kind)==2))] λS=>azl (au6 _ _ ?_);refine azM S (λEY=>?_) (λEY=>?_)
 .refine aA8<|Rz _ _<|azn λ_ aj7=>azk S 1 [] [(20,.q b2 1)] λS=>azY S 0 (off:=1) (v := .i 0) I λu C39 S=>azl<|aj7 _ _<|aA8 ?_;exact J6 e.kind 0 e.index e.depth e.node e.color _ _ (by have hk:=EY; rw[CW]; unfold bF.named; simp[aP.key,show e.kind=2 from by simpa using hk]) (he.2.2.2.2.below S.E) S.sn
 refine aAs<|Wu _ _<|azn λ_ aki=>azk S 2 [] [(13,.bool ((e.kind)==5))] λS=>azl (aki _ _ ?_);refine azM S (λJ9=>?_) (λJ9=>?_)
 .refine aA8<|OT _ _<|azn λ_ adM=>azk S 2 [] [(21,.agg #[.u 0,.u 0,.u 0,.u 0]),(22,.q b2 51)] λS=>azR S 0 (off:=51) (cs:=[.u 0,.u 0,.u 0,.u 0]) I λu C43 S=>azl<|adM _ _<|aA8 ?_;exact J6 e.kind e.id e.index e.depth e.node bD.none _ _ (by have hk:=J9; rw[CW]; unfold bF.named; simp[aP.key,show e.kind=5 from by simpa using hk]) (he.2.2.2.2.below S.E) S.sn
 refine aAs<|Ai _ _<|aA8<|Ah _ _<|az8 λ_ agO=>azn λ_ adU=>azk S 1 [] [(2,.z)] λS=>azl<|adU _ _<|U0 S results98 ?_;exact⟨aN (by unfold bF.named; rw[azP (show ¬(e.key.kind=1)from by simpa[aP.key]using hc19)]; rw[azP (show ¬(e.key.kind=2)from by simpa[aP.key]using EY)]; rw[azP (show ¬(e.key.kind=3)from by simpa[aP.key]using uq)]; rw[azP (show ¬(e.key.kind=4)from by simpa[aP.key]using hc25)]; rw[azP (show ¬(e.key.kind=5)from by simpa[aP.key]using J9)]),S.E⟩
def afc(s:aH)(e:aP)(code:Int)(t:aH):Prop:=
 (match mO (keys s.ns) e.key with | .error n=>code=n | .ok l=>code=0∧keys t.ns=l∧t.bg=if e.kind=5 then e.color else s.bg)∧t.w=s.w∧t.h=s.h
theorem EK(l:List aj)(id:Int):(wW (keys l) id = -1∧jM (keys l) id=none)∨∃i:Nat,wW (keys l) id=(i:Int)∧jM (keys l) id=some i∧i<l.length:=by
 unfold wW;cases h:jM (keys l) id with
 | none=>exact .inl ⟨I,I⟩
 | some i =>
  obtain⟨hi,_⟩:=Aq h;exact .inr ⟨i,I,I,by simpa using hi⟩
theorem ahJ{w:World}{a:Act}{l:List (Nat×Value)}{vs:List fD}(S:Sx.St w0 a w n l [(b,A)] vs)(ho:w.ownsRow w0.heap.size 38 47 v m xs)(hb:v.ownBlock≠some b):Rw w0 w [(b,A)] [⟨38,47,v,m,xs⟩]:=by
 refine⟨λr hr=>by obtain rfl:=aAn.1 hr; exact ho,λc hc=>?_,?_⟩
 .unfold Ob at hc;simp only[aAE,aA2,aCh,List.filterMap_nil,aAu,aAn]at hc;rcases hc with rfl | hc
  .exact(S.bx 0).1
  cases hv:v.ownBlock with
  | none=>rw[hv]at hc; cases hc
  | some g=>rw[hv]at hc; obtain rfl:=aAn.1 hc; exact(iP ho hv).2
 unfold Ob;cases hv:v.ownBlock with
 | none=>simp[hv]
 | some g=>simp[hv]; intro e; rw[e]at hb; exact hb hv
theorem alU{base:Nat}{bl:List (Nat×List Value)}{r:Sx.Row}{w:World}(h:Sx.Ow base (Ob bl (r::rs)) F w):Sx.Ow base (Ob bl rs) F w:=
 h.mono λk hk=>⟨hk.1,λhm=>hk.2 (by
  rcases aAu.1 hm with h | h
  .exact aBY _ h
  .refine aBH _ ?_
   rw[aCh]
   cases r.v.ownBlock
   .exact h
   .exact aA4 _ h)⟩
theorem afd{w:World}{B:Nat}{L:List aj}(ho:w.ownsRow B 38 47 v m (L.flatMap aj.cells))(hm:m=L.length):Sx.On (λi=>v.ownBlock=some i) (nY 38 47 aj.cells B v L) w:=λw' hs hb =>
 aAj (kC (λ_=>I) (mJ ho λg hg=>hb g (iP ho hg).2 hg) hm I)
theorem alV{w:World}{bl:List (Nat×List Value)}{L:List aj}(R:Rw w0 w bl (⟨38,47,v,m,L.flatMap aj.cells⟩::rs))(hm:m=L.length):Sx.Ow w0.heap.size (Ob bl rs) (nY 38 47 aj.cells w0.heap.size v L) w:=by
 have ho:=R.own _ az5;refine(afd ho hm).mono λi hi=>⟨(iP ho hi).1,λhmem=>?_⟩;have hap:=R.apart;unfold Ob at hap hmem;rw[aCh,show(⟨38,47,v,m,L.flatMap aj.cells⟩:Sx.Row).v.ownBlock=some i from hi]at hap;have hd:=aBn.1 hap;rcases aAu.1 hmem with h | h
 .exact hd.2.2 i h i Y I
 exact(aBZ.1 hd.2.1).1 h
theorem afe{w:World}{bl:List (Nat×List Value)}{a:Option Addr}{c:Nat}(R:Rw w0 w bl (⟨38,47,.slice a n c,n,xs⟩::rs))(hn:0<n):∃g,a=some ⟨g,0,none⟩∧∀p∈bl,p.1≠g:=by
 obtain⟨g,rfl⟩:=SC (R.own _ az5) hn;exact⟨g,I,(R.range az5 I 0 (cs:=[]) I).2.2⟩
theorem aff{g i k:Nat}(h:m≠i):pJ (some ⟨g,0,none⟩) i m k=some ⟨g,0+i*k,none⟩:=by
 unfold pJ; rw[azP h];show some ((⟨g,0,none⟩:Addr).add (i*k))=_;congr 1;unfold Addr.add; split<;>simp_all
theorem afg(l:List aj)(i j:Nat):keys (l.take i++l.drop j)=Si (keys l) i j:=by unfold keys Si; simp
theorem Zj{P:aj->Prop}{l:List aj}(hl:∀n∈l,P n)(i j:Nat):∀n∈l.take i++l.drop j,P n:=λn hn=>by
 rcases aAu.1 hn with h | h
 .exact hl n (aBG h)
 exact hl n (List.mem_of_mem_drop h)
theorem afh{w:World}(h:Sx.On (λi=>w0.heap.size<=i∧i≠b∧v.ownBlock≠some i) F w):Sx.Ow w0.heap.size (Ob [(b,A)] [⟨38,47,v,m,xs⟩]) F w:=
 h.mono λi hi=>⟨hi.1,λhm=>by
  unfold Ob at hm
  simp only[aAE,aA2,aCh,List.filterMap_nil,aAu,aAn]at hm
  rcases hm with rfl | hm
  .exact hi.2.1 I
  .cases hv:v.ownBlock with
   | none=>rw[hv]at hm; cases hm
   | some g=>rw[hv]at hm; obtain rfl:=aAn.1 hm; exact hi.2.2 hv⟩
theorem abG{B:Nat}{u1 u2 u3:World}{m:aH}(h:m.own B u1)(hE:Ext u1 u2)(hC:Ch b u2 u3)(hb:b<B∨u1.heap.size<=b) :
  m.own B u3∧m.s.ownBlock≠some b∧Sx.On (λi=>B<=i∧i≠b∧m.s.ownBlock≠some i) (λW=>∀n∈m.ns,n.pU B W) u3:=by
 have hr2:=Sx.dB h.row hE;have hob:m.s.ownBlock≠some b:=λe=>by have:=iP h.row e; omega
 have hn:Sx.On (λi=>B<=i∧i≠b∧m.s.ownBlock≠some i) (λW=>∀n∈m.ns,n.pU B W) u3:=λw' hs hk =>
  h.nodes w' (aAa (aAa hE.size hC.size) hs) λk h1 h2=>by
   have hkb:k≠b:=Z
   have h3:k<u2.heap.size:=aAk h1 hE.size
   exact((hk k (aAk h3 hC.size) ⟨h2.1,hkb,h2.2⟩).trans (hC.block k h3 λe=>hkb (az1 e))).trans (hE.block k h1)
 exact⟨⟨mJ hr2 λg hg=>hC.block g (iP hr2 hg).2 λe=>hob (hg.trans e),hn.mono λi hi=>⟨hi.1,hi.2.2⟩⟩,hob,hn⟩
theorem own_base{B B':Nat}{u:World}{m:aH}(hB:B'<=B)(h:m.own B u∧m.s.ownBlock≠some b∧Sx.On (λi=>B<=i∧i≠b∧m.s.ownBlock≠some i) (λW=>∀n∈m.ns,n.pU B W) u) :
  m.own B' u∧m.s.ownBlock≠some b∧Sx.On (λi=>B'<=i∧i≠b∧m.s.ownBlock≠some i) (λW=>∀n∈m.ns,n.pU B' W) u:=
 ⟨⟨bC h.1.row hB,(h.1.nodes.mono λi hi=>⟨aAa hB hi.1,hi.2⟩).imp λ_ k n hn=>OH (k n hn) hB⟩,h.2.1,(h.2.2.mono λi hi=>⟨aAa hB hi.1,hi.2⟩).imp λ_ k n hn=>OH (k n hn) hB⟩
def XO(base:Nat)(K:Nat)(s:aH)(e:aP)(code:Int)(t:aH)(w:World):Prop:=
 (t.key,code)=dA s.key e.key∧fA base t.s t.ns w∧dL K w t∧∀n∈t.ns,n.vT K
theorem rP{base:Nat}{s:aH}{code:Int}{w:World}(h:dA s.key e.key=(.zero,code)):XO base K s e code .zero w:=
 ⟨h.symm,aAm (kC (f:=aj.cells) (L:=[]) (λ_=>I) ⟨I,.inl ⟨I,I⟩⟩ I I) (λ_ _ _ n hn=>by cases hn),Ip w,λn hn=>(by cases hn)⟩
theorem Jr{l:List aQ}{e:bF}{n:Int}(h:mO l e = .error n):n≠0:=by
 unfold mO iI at h;(repeat' split at h)<;>first | (cases h; decide) | cases h
end
section
open Go.RowKit Go.Sx
variable{K:Nat}
structure HK where
 ss:List aX
 es:List bF
 k:Nat
def HK.now(h:HK):aX:=(h.ss[h.k]?).getD .zero
noncomputable def HK.put(h:HK)(e:bF):HK×Int:=if (dA h.now e).2=0 then (⟨h.ss.take (h.k+1)++[(dA h.now e).1],h.es.take h.k++[e],h.k+1⟩,0)else (h,(dA h.now e).2)
noncomputable def HK.app(h:HK)(e:bF):HK×Int:=if h.k=256 then (h,5)else h.put e
def HK.undo(h:HK):HK×Int:=if h.k=0 then (h,20)else (⟨h.ss,h.es,h.k-1⟩,0)
def HK.redo(h:HK):HK×Int:=if h.k=h.es.length then (h,20)else (⟨h.ss,h.es,h.k+1⟩,0)
structure HK.Ok (h:HK):Prop where
 hs:Hs h.ss h.es
 k:h.k<=h.es.length
 most:h.es.length<=256
theorem HK.Ok.at{h:HK}(o:h.Ok):h.ss[h.k]?=some h.now:=by
 have:=o.hs.len;have:=o.k;unfold HK.now;rw[List.getElem?_eq_getElem Z]; rfl
theorem HK.Ok.put{h:HK}(o:h.Ok)(hk:h.k≠256)(e:bF):(h.put e).1.Ok:=by
 unfold HK.put;have hl:=o.k;have hm:=o.most;split
 .rename_i ha;exact⟨Hs.put o.hs o.at (Prod.ext I ha),(by show h.k+1<=(h.es.take h.k++[e]).length; simp; omega),(by show(h.es.take h.k++[e]).length<=256; simp; omega)⟩
 exact o
theorem HK.Ok.undo{h:HK}(o:h.Ok):h.undo.1.Ok:=by
 unfold HK.undo;have:=o.k;split
 .exact o
 exact⟨o.hs,(by show h.k-1<=h.es.length; omega),o.most⟩
theorem HK.Ok.redo{h:HK}(o:h.Ok):h.redo.1.Ok:=by
 unfold HK.redo;have:=o.k;split
 .exact o
 exact⟨o.hs,(by show h.k+1<=h.es.length; omega),o.most⟩
structure HD where
 sa:Option Addr
 sc:Nat
 ss:List aH
 ea:Option Addr
 ec:Nat
 es:List aP
 k:Nat
def HD.tl(H:HD):List Value:=[.slice H.sa H.ss.length H.sc,.slice H.ea H.es.length H.ec,.i H.k]
def HD.cells(H:HD):List Value:=[.slice H.sa H.ss.length H.sc,.slice H.ea H.es.length H.ec,.i H.k,.bool true]
def HD.key(H:HD):HK:=⟨H.ss.map aH.key,H.es.map aP.key,H.k⟩
def HD.row(K:Nat)(H:HD)(W:World):Prop:=(aJ 7 aH.cells W (.slice H.sa H.ss.length H.sc) H.ss∧∀s∈H.ss,dL K W s)∧aJ 55 aP.cells W (.slice H.ea H.es.length H.ec) H.es∧∀e∈H.es,iy K W e
structure HD.Ok (K:Nat) (H:HD):Prop where
 k:H.key.Ok
 s:∀s∈H.ss,∀n∈s.ns,n.vT K
 e:∀e∈H.es,e.node.vT K
abbrev HD.mem (K c b:Nat)(H:HD)(w:World):Prop:=Sx.On (λi=>c<=i∧i≠b) (H.row K) w
theorem HD.Ok.len{H:HD}(h:H.Ok K):H.ss.length=H.es.length+1:=by have:=h.k.hs.len; unfold HD.key at this; simpa using this
theorem HD.Ok.le{H:HD}(h:H.Ok K):H.k<=H.es.length∧H.es.length<=256:=by
 have h1:=h.k.k;have h2:=h.k.most;unfold HD.key at h1 h2;simp only[aA5]at h1 h2;exact⟨h1,h2⟩
theorem HD.Ok.lt{H:HD}(h:H.Ok K):H.k<H.ss.length:=by have:=h.len; have:=h.le; omega
theorem K08{H:HD}(hk:H.k<H.ss.length):H.key.now=(H.ss[H.k]).key:=by
 unfold HK.now HD.key;simp only[List.getElem?_map,List.getElem?_eq_getElem hk]; rfl
theorem HD.Ok.val{H:HD}(h:H.Ok K){s:aH}(hs:s∈H.ss):s.key.valid=true:=h.k.hs.val _ (aAi.2 ⟨s,hs,I⟩)
theorem Uw{s:aH}(h:s.key.valid=true):s.ns.length<=64:=by
 have:=(aX.kE.1 h).2.1;rwa [show s.key.ns.length=s.ns.length from aA5 ..]at this
theorem HD.Ok.put{H:HD}(h:H.Ok K)(hk:H.k≠256){t:aH}{d:aP}{e:bF}(ha:(t.key,(0:Int))=dA (H.ss[H.k]'h.lt).key e)(hd:d.key=e)(ht:∀n∈t.ns,n.vT K)(hde:d.node.vT K)(sa ea:Option Addr)(sc ec:Nat) :
  HD.Ok K ⟨sa,sc,H.ss.take (H.k+1)++[t],ea,ec,H.es.take H.k++[d],H.k+1⟩∧(HD.key ⟨sa,sc,H.ss.take (H.k+1)++[t],ea,ec,H.es.take H.k++[d],H.k+1⟩,(0:Int))=H.key.put e:=by
 rw[<-K08 h.lt]at ha;have e1:(HD.key ⟨sa,sc,H.ss.take (H.k+1)++[t],ea,ec,H.es.take H.k++[d],H.k+1⟩,(0:Int))=H.key.put e:=by
  unfold HK.put;rw[<-ha];simp[HD.key,hd]
 refine⟨⟨?_,λs hs=>?_,λx hx=>?_⟩,e1⟩
 .have:=h.k.put hk e;rw[<-e1]at this;exact this
 .rcases aAu.1 hs with hs | hs
  .exact h.s s (aBG hs)
  rw[aAn.1 hs]; exact ht
 rcases aAu.1 hx with hx | hx
 .exact h.e x (aBG hx)
 rw[aAn.1 hx]; exact hde
theorem K12{h:HK}{t:aX}{n:Int}{e:bF}(ha:(t,n)=dA h.now e)(hn:n≠0):(h,n)=h.put e:=by
 unfold HK.put;rw[<-ha,azP hn]
theorem K13{H:HD}{B:Nat->Prop}{b:Nat}{w:World}{t:aH}{d:aP}{sa ea:Option Addr}{sc ec:Nat}(hm:Sx.On (λi=>B i∧i≠b) (H.row K) w)
  (hr:Sx.On (λi=>B i∧i≠b) (λW=>aJ 7 aH.cells W (.slice sa (H.ss.take (H.k+1)++[t]).length sc) (H.ss.take (H.k+1)++[t])) w) (ht:Sx.On (λi=>B i∧i≠b) (λW=>dL K W t) w)
  (hr2:Sx.On (λi=>B i∧i≠b) (λW=>aJ 55 aP.cells W (.slice ea (H.es.take H.k++[d]).length ec) (H.es.take H.k++[d])) w) (hd:Sx.On (λi=>B i∧i≠b) (λW=>iy K W d) w) :
  Sx.On (λi=>B i∧i≠b) (HD.row K ⟨sa,sc,H.ss.take (H.k+1)++[t],ea,ec,H.es.take H.k++[d],H.k+1⟩) w:=by
 refine aAD (aAm hm (aAm hr (aAm ht (aAm hr2 hd)))) λW ⟨⟨⟨_,o1⟩,_,o2⟩,q1,q2,q3,q4⟩=>⟨⟨q1,λs hs=>?_⟩,q3,λx hx=>?_⟩
 .rcases aAu.1 hs with hs | hs
  .exact o1 s (aBG hs)
  rw[aAn.1 hs]; exact q2
 rcases aAu.1 hx with hx | hx
 .exact o2 x (aBG hx)
 rw[aAn.1 hx]; exact q4
theorem K09{H:HD}{c b:Nat}{w w':World}(hm:H.mem K c b w)(hc:Ch b w w'):H.mem K c b w':=λw2 hs hk=>hm w2 (aAa hc.size hs) λi hi hB=>(hk i (aAk hi hc.size) hB).trans (hc.block i hi (λe=>by simp only[azT]at e; exact hB.2 e))
theorem MX{l m:List ak}(h:l.map ak.key=m.map ak.key)(hf:∀p∈l,p.t.fit K)(hK:K<=10000)(hm:∀p∈m,p.lim):∀p∈l,p.lim:=λp hp=>by
 have hq:p.key∈m.map ak.key:=h▸aAi.2 ⟨p,hp,I⟩;obtain⟨q,hq,e⟩:=aAi.1 hq;have hl:=hm q hq;have e1:=az0 (λx:je=>x.stops.length) e;have e2:=az0 (λx:je=>x.img.l.length) e;exact⟨(show q.stops.length=p.stops.length from e1)▸hl.1,(show q.img.l.length=p.img.l.length from e2)▸hl.2.1,(hf p hp).up Z⟩
theorem Zl{n m:aj}(h:n.key=m.key)(hf:n.SH K)(hm:m.lim):n.lim:=by
 have e1:n.clip.length=m.clip.length:=az0 (λx:aQ=>x.clip.length) h;have e2:n.path.length=m.path.length:=az0 (λx:aQ=>x.path.length) h;have e3:n.fill.map ak.key=m.fill.map ak.key:=az0 aQ.fill h;have e4:n.stroke.map ak.key=m.stroke.map ak.key:=az0 aQ.stroke h;have e5:n.style.dash.length=m.style.dash.length:=az0 (λx:aQ=>x.style.dash.length) h;have e6:n.img.l.length=m.img.l.length:=az0 (λx:aQ=>x.img.l.length) h;have e7:n.fill.length=m.fill.length:=by simpa using az0 List.length e3
 have e8:n.stroke.length=m.stroke.length:=by simpa using az0 List.length e4
 obtain⟨k1,k2,k3,k4,k5,k6,k7,k8,k9⟩:=hm;obtain⟨f1,f2,f3,f4,f5⟩:=hf;exact⟨f1.up Z,Z,Z,Z,MX e3 f2 f5 k5,Z,Z,MX e4 f3 f5 k8,Z⟩
theorem afi{l m:List aj}(h:l.map aj.key=m.map aj.key)(hf:∀n∈l,n.SH K)(hm:∀n∈m,n.lim):∀n∈l,n.lim:=λn hn=>by
 have hq:n.key∈m.map aj.key:=h▸aAi.2 ⟨n,hn,I⟩;obtain⟨q,hq,e⟩:=aAi.1 hq;exact Zl e.symm (hf n hn) (hm q hq)
end
section
open Go.RowKit Go.Sx
variable{α:Type}{K base:Nat}{w w':World}{e0:TypeId}
def Sp(e0:TypeId)(w w':World):Prop:=w.heap.size<=w'.heap.size∧∀(g:Nat) (cur:Array Value) (e:TypeId),e≠e0->w.heap[g]?=some (.cells cur e (0,0))->w'.heap[g]?=w.heap[g]?
variable{v:Value}{e:TypeId}{k:Nat}{f:α->List Value}
theorem CX{n:Nat}(he:e≠e0)(h:Sx.Ty e k base v n w)(hs:Sp e0 w w'):Sx.Ty e k base v n w':=by
 rcases h with h | ⟨g,cap,cur,h1,h2,h3,h4⟩
 .exact .inl h
 exact .inr ⟨g,cap,cur,h1,h2,(hs.2 g cur e he h3).trans h3,h4⟩
theorem AY{L:List α}(he:e≠e0)(h:aJ k f w v L)(ht:Sx.Ty e k base v L.length w)(hs:Sp e0 w w'):aJ k f w' v L:=by
 obtain⟨a,cap,rfl,hm,hc⟩:=h;refine⟨a,cap,I,hm,?_⟩;rcases hc with hc | ⟨b,o,rfl,hlt,hl,hcell⟩
 .exact .inl hc
 rcases ht with h0 | ⟨g,cap',cur,h1,h2,h3,h4⟩
 .have hL:=aBd h0;subst hL;exact .inr ⟨b,o,I,aAk hlt hs.1,hl,λi hi=>absurd hi (Nat.not_lt_zero _)⟩
 simp only[aAq,azT,aBV,and_true,true_and]at h1;obtain⟨⟨rfl,rfl⟩,rfl⟩:=h1;exact .inr ⟨b,0,I,aAk hlt hs.1,hl,λi hi j hj=>(World.cell?_of_block (a:=⟨b,0+i*k+j,none⟩) (hs.2 b cur e he h3)).trans (hcell i hi j hj)⟩
theorem Zm{L:List α}(he:e≠e0)(h:nY e k f base v L w)(hs:Sp e0 w w'):nY e k f base v L w':=⟨AY he h.1 h.2 hs,CX he h.2 hs⟩
theorem Js{f:α->Value}{L:List α}(he:e≠e0)(h:dG f w v L)(ht:Sx.Ty e 1 base v L.length w)(hs:Sp e0 w w'):dG f w' v L:=eH (AY he (fH h) ht hs)
def Odd(e0:TypeId):Prop:=119≠e0∧202≠e0∧178≠e0∧133≠e0∧163≠e0∧3≠e0∧38≠e0
instance:Decidable (Odd e0):=by unfold Odd; infer_instance
theorem D5{r:bJ}(he:Odd e0)(h:r.pU base w)(hs:Sp e0 w w'):r.pU base w':=⟨⟨Js he.1 h.1.1 h.2.1 hs,Js he.1 h.1.2 h.2.2 hs⟩,CX he.1 h.2.1 hs,CX he.1 h.2.2 hs⟩
theorem afj{t:bH}(he:Odd e0)(h:t.pU base w)(hs:Sp e0 w w'):t.pU base w':=⟨D5 he h.1 hs,D5 he h.2.1 hs,D5 he h.2.2.1 hs,D5 he h.2.2.2.1 hs,D5 he h.2.2.2.2.1 hs,D5 he h.2.2.2.2.2 hs⟩
theorem afk{p:ak}(he:Odd e0)(h:p.pU base w)(hs:Sp e0 w w'):p.pU base w':=by
 obtain⟨ho,t1,t2,ht⟩:=h;have ht':=afj he ht hs;refine⟨?_,CX he.2.1 t1 hs,CX he.2.2.1 t2 hs,ht'⟩;unfold ak.ok at *;simp only[dF.ok]at *;obtain⟨a1,a2,a3,a4,a5,a6,a7,a8,a9,a10⟩:=ho;exact⟨a1,a2,a3,a4,AY he.2.1 a5 t1 hs,a6,a7,⟨a8.1,a8.2.1,AY he.2.2.1 a8.2.2 t2 hs⟩,a9,ht'.ok⟩
theorem MZ{l:List ak}(he:Odd e0)(h:kG base w v l)(hs:Sp e0 w w'):kG base w' v l:=⟨Zm he.2.2.2.1 h.1 hs,λp hp=>afk he (h.2 p hp) hs⟩
theorem ahK{n:aj}(he:Odd e0)(h:n.pU base w)(hs:Sp e0 w w'):n.pU base w':=by
 obtain⟨ho,t,c,p,f,s,d,m⟩:=h;have t':=afj he t hs;have f':=MZ he f hs;have s':=MZ he s hs;refine⟨?_,t',CX he.2.2.2.2.1 c hs,CX he.2.2.2.2.1 p hs,f',s',CX he.2.2.2.2.2.1 d hs,CX he.2.2.1 m hs⟩;unfold aj.ok at *;simp only[dF.ok,aV.ok]at *;obtain⟨h1,h2,h3,h4,h5,h6,h7,h8,h9,h10,⟨s1,s2,s3,s4,s5,s6,s7⟩,h12,⟨i1,i2,i3⟩,Ky⟩:=ho;exact⟨h1,h2,h3,t'.ok,⟨AY he.2.2.2.2.1 h5.1 c hs,h5.2⟩,h6,h7,⟨AY he.2.2.2.2.1 h8.1 p hs,h8.2⟩,h9,f'.ok,⟨s1,s2,s3,s4,Js he.2.2.2.2.2.1 s5 d hs,s6,s7⟩,s'.ok,⟨i1,i2,AY he.2.2.1 i3 m hs⟩,Ky⟩
theorem abH{l:List aj}(he:Odd e0)(h:DJ base v l w)(hs:Sp e0 w w'):DJ base v l w':=⟨Zm he.2.2.2.2.2.2 h.1 hs,λn hn=>ahK he (h.2 n hn) hs⟩
open Go.Sx Go.Rel in
theorem _root_.Go.Sx.Nc{P:Program}{w:World}{os:List Oper}{i:Nat}{o:Oper}{ρ:Operand->Value}(ho:os[i]?=some o)(hs:Std ρ)(l:List (Nat×Value))(hl:∀q v,l.lookup q=some v->ρ (.tmp q)=v)(A:List Value)(ty:TypeId){Post:Value->World->Prop}(hT:∀b w',w.heap.size<=b->w'.heap[b]?=some (.cells A.toArray ty (0,0))->Bx w' b A.toArray->Ext w w'->Post (.pointer (some ⟨b,0,Option.none⟩)) w')
  (hx:∀r,((os[i]?).bind λo=>wR P r [o] l).map (λq=>(q.1,q.2.1,q.2.2.1,q.2.2.2.isSome))=some (A,ty,shV Option.none r,true):=by intro r; kernel_rfl):Does P o ρ w Post:=by
 have hx:=hx w.heap.size;rw[ho,aBP]at hx;unfold wR at hx;simp only at hx;split at hx
 .rename_i A' ty' k' hg hav hev;split at hx
  .rename_i v hv;simp only[aAF,azT,azW]at hx;obtain⟨rfl,rfl,rfl,hd⟩:=hx;simp only[aAI]at hav;have hH:Holds ρ (lift l):=λq x hq=>by
    rw[jK]at hq;cases h2:l.lookup q with
    | none=>simp[h2]at hq
    | some u =>
     simp only[h2,aAF,azT]at hq;subst hq;rw[hl q u h2]; rfl
   have hc:execOp ρ o=execOp (yP (lift l) []) o:=by
    refine execOp_congr o (λcs b e1=>by rw[e1]at hav; cases hav.1) λx hx=>?_;have h2:=hav.2;simp only[aBg,aB7]at h2;obtain⟨z,hz⟩:=aAY.1 (h2 x hx);rw[gX hs (iq hH o x hx) (p:=[]) I hz];simp[yP,hz]
   have hv':ev0 P k'=some (.value (shV Option.none w.heap.size)):=by
    unfold iT at hv;split at hv
    .rename_i h; obtain h2:=az1 hv; rw[h]; simp only[EZ.val.injEq]at h2; rw[h2]
    .cases hv
    cases hv
   have hrun:(execOp ρ o).run P w = .ok (.value (shV Option.none w.heap.size)) (w.alloc (.cells A'.toArray ty')):=by rw[hc,ni hev,nO hv']
   unfold Does;rw[hrun];exact hT _ _ (azS _) (by unfold World.alloc; exact Array.getElem?_push_size) (GY _ _ _) (aF _ _)
  simp at hx
 simp at hx
end
section
open Go.RowKit Go.Sx
variable{α:Type}{K:Nat}
theorem _root_.Go.Sx.On.ch{B:Nat->Prop}{F:World->Prop}{w w':World}{x:Nat}(h:Sx.On B F w)(hc:Ch x w w')(hx:¬B x):Sx.On B F w':=λw2 hs hk =>
 h w2 (aAa hc.size hs) λi hi hB=>(hk i (aAk hi hc.size) hB).trans (hc.block i hi (λe=>by simp only[azT]at e; exact hx (e▸hB)))
variable{c b k:Nat}{a:Option Addr}{A:Array Value}{e:aP}{f:α->List Value}
theorem ap9{w:World}(h:Bx w b A):Sx.On (λi=>i=b) (λW=>Bx W b A) w:=λw' hs hk =>
 have e:=hk b h.1 I
 ⟨aAk h.1 hs,λi=>by rw[World.cell?_of_block (a:=⟨b,i,none⟩) e]; exact h.2.1 i,λi=>by rw[World.frozen?_of_block (a:=⟨b,i,none⟩) e]; exact h.2.2 i⟩
theorem aqa:iK prog 44 65 (.agg aH.zero.cells.toArray) 7 48:=⟨underlying44,info_parts X,I,by decide⟩
theorem aqb:iK prog 45 42 (.agg (aP.cells ⟨0,0,0,0,bM,.none⟩).toArray) 55 696:=⟨underlying45,info_parts X,I,by decide⟩
theorem ai1{base:Nat}{e0:TypeId}{fz:Nat×Nat}{v:Value}{l:List aj}{w:World}(he:Odd e0)(h:fA base v l w)(hb:w.heap[b]?=some (.cells A e0 fz)):Sx.On (λk=>base<=k∧k≠b) (DJ base v l) w:=λw2 hs hk=>by
 have hbw:b<w.heap.size:=(Array.getElem?_eq_some_iff.1 hb).1;obtain⟨w3,hw3⟩:∃z:World,z={w2 with heap:=w2.heap.setIfInBounds b (.cells A e0 fz)}:=⟨_,I⟩;have hg:∀g,w3.heap[g]?=if g=b then some (.cells A e0 fz)else w2.heap[g]?:=λg=>by
  rw[hw3,Array.getElem?_setIfInBounds];by_cases e:b=g
  .rw[azQ e,azQ e.symm,azQ Z]
  rw[azP e,azP (λk=>e k.symm)]
 have hsz:w3.heap.size=w2.heap.size:=by rw[hw3]; simp
 have h3:DJ base v l w3:=h w3 Z λk hk1 hB=>by
  rw[hg];split
  .rename_i e; subst e; exact hb.symm
  rename_i e; exact hk k hk1 ⟨hB,e⟩
 refine abH he h3 ⟨Z,λg cur e hne hgc=>?_⟩;rw[hg]at hgc |-;split at hgc
 .cases hgc; exact absurd I hne
 rename_i e; rw[azP e]
theorem alW{base:Nat}{w:World}{q:aj}(h:fA base (.slice a 1 c) [q] w):∃g,a=some ⟨g,0,none⟩∧base<=g∧g<w.heap.size∧w.rangeAt g 0 q.cells:=by
 have h1:=(aAj h).1;obtain⟨b,o,c,hv,hb,hr⟩:=Vp.rG h1.1 (λ_=>I) 0 (by show 0<1; decide);rcases h1.2 with h0 | ⟨g,cap,cur,hg,h2,-⟩
 .exact absurd h0 (by show ¬1=0; decide)
 simp only[aAq]at hv hg;have e:=hg.1.symm.trans hv.1;simp only[azT,aBV]at e;obtain⟨rfl,rfl,-⟩:=e;exact⟨g,hg.1,h2,hb,hr⟩
theorem xG{w:World}(h:eG K w e.node)(hl:e.node.lim) :
  Calls prog 36 #[e.v] w λr w'=>∃m:aj,r = .returned (aP.v {e with node:=m})∧m.cp w.heap.size w'∧m.strip=e.node.strip∧Ext w w':=by
 skip;refine azp func36 ntmps36 λS=>azo S λu b2 E3 hb4 S=>azo S λu b5 E6 hb7 S=>adr S 2 [] [.mem 1 4] λS=>azo S (λu b9 Qj ac5 S=>?_);have q0:=(S.bx 0).1;have q1:=(S.bx 1).1;have q2:=(S.bx 2).1;have hEq:=S.E.size;have hold:=λp hp=>(S.own p hp).1.1;have hsk:dL K u (⟨0,0,.none,some ⟨b9,0,none⟩,1,[e.node]⟩:aH):=⟨(show I64 0 by decide),(show I64 0 by decide),FX (f:=aj.cells) [e.node] (λ_=>I) (by simpa using S.kK 0) (by show 1<=maxLen; decide),λn hn=>by rw[aAn.1 hn]; exact h.below S.E⟩;refine azz S (rH hsk (λn hn=>by rw[aAn.1 hn]; exact hl) (by show 1<=100000; decide)) ?_;rintro e u ⟨m,rfl,ho,hst,-,-,-,pW⟩;obtain⟨mw,mh,mb,ma,mc,ml⟩:=m;obtain⟨n,rfl,hns⟩:=List.map_eq_singleton_iff.1 hst;have hmn:=aAD ho.cp λ_ h=>h.2 n az5;obtain⟨g,rfl,hgb,au7,hgr⟩:=alW ho.cp;refine⟨_,I,pW,λS=>?_⟩;have S:=S.view au7 hgr (λp hp=>by have:=hold p hp; omega);refine adr S 4 [] [.mem 3 0] λS=>azq S 2 I (λu C13 S=>?_);have Am:=(Sx.On.ch hmn C13 Z);refine adr S 1 [] [.mem 2 0] λS=>azq S 1 I (λu C16 S=>?_);have vS:=(Sx.On.ch Am C16 Z);refine azC S 1 I (v:=aP.v {e with node:=n}) (λS=>?_);exact⟨_,I,FV vS hEq,hns,S.E⟩
theorem HD.alX{w:World}{s m:aH}(h:dL K w s)(hl:∀n∈s.ns,n.lim)(hv:s.key.valid=true)(hst:m.ns.map aj.strip=s.ns.map aj.strip)(e1:m.w=s.w)(e2:m.h=s.h)(e3:m.bg=s.bg){a:Option Addr}:HD.Ok K ⟨a,1,[m],none,0,[],0⟩∧HD.key ⟨a,1,[m],none,0,[],0⟩=⟨[s.key],[],0⟩:=by
 have ek:m.key=s.key:=by unfold aH.key; rw[e1,e2,e3]; exact az0 _ (Au hst)
 have e4:HD.key ⟨a,1,[m],none,0,[],0⟩=⟨[s.key],[],0⟩:=by unfold HD.key; rw[<-ek]; rfl
 refine⟨⟨?_,λt ht n hn=>?_,λe he=>(by cases he)⟩,e4⟩
 .rw[e4]; exact⟨Hs.new hv,azS _,azZ _⟩
 rw[aAn.1 ht]at hn;exact⟨fits_all hst (λn hn=>(h.2.2.2 n hn).2) n hn,Aw hst hl n hn⟩
theorem HD.ahL{w u:World}{s m:aH}(h:dL K w s)(hl:∀n∈s.ns,n.lim)(hst:m.ns.map aj.strip=s.ns.map aj.strip)(e1:m.w=s.w)(e2:m.h=s.h)(e3:m.bg=s.bg){c base b g:Nat}(hm:Sx.On (λi=>base<=i∧i≠b) (DJ base m.s m.ns) u)(hx:Bx u g m.cells.toArray)(hc:c<=base)(hg:c<=g)(hgb:g≠b):HD.mem K c b ⟨some ⟨g,0,none⟩,1,[m],none,0,[],0⟩ u:=by
 refine aAD (aAm (hm.mono λi hi=>⟨aAa hc hi.1,hi.2⟩) ((ap9 hx).mono λi hi=>by subst hi; exact⟨hg,hgb⟩)) λW ⟨q1,q2⟩=>⟨⟨FX (f:=aH.cells) [m] (λ_=>I) (by simpa using q2) (by show 1<=maxLen; decide),λt ht=>?_⟩,dI _ _ _,λe he=>(by cases he)⟩;rw[aAn.1 ht];exact⟨e1▸h.1,e2▸h.2.1,q1.1.1,λn hn=>⟨(q1.2 n hn).1,fits_all hst (λn hn=>(h.2.2.2 n hn).2) n hn⟩⟩
theorem afl{w:World}{s:aH}(h:dL K w s)(hg:dw w)(hlim:∀n∈s.ns,n.lim) :
  Calls prog 25 #[s.v] w λe w'=>(s.key.valid=false∧e = .returned (.tuple #[.pointer none,.i 18])∧Ext w w')∨(s.key.valid=true∧∃(b:Nat) (H:HD),e = .returned (.tuple #[.q b 0,.i 0])∧w.heap.size<=b∧Bx w' b H.cells.toArray∧H.mem K w.heap.size b w'∧(H.Ok K∧H.key=⟨[s.key],[],0⟩)∧Ext w w'):=by
 skip;refine azp func25 ntmps25 λS=>azo S λu b2 E3 hb4 S=>adr S 3 [] [.mem 0 0] λS=>azB S (wY (h.below S.E) (dw.below hg S.E)) λu E7 S=>azm S (!s.key.valid) (λhc8 S=>?_) (λhc8 S=>?_)
 .refine Qo S ((.pointer none)) (.i 18) (λS=>?_);exact .inl ⟨by simpa using hc8,I,S.E⟩
 have hEq:=S.E.size;have hv:s.key.valid=true:=by simpa using hc8
 refine adr S 1 [] [.mem 0 0] λS=>azz S (rH (h.below S.E) hlim (by have:=Uw hv; omega)) ?_;rintro e u ⟨m,rfl,ho,hst,hw1,hh1,hb1,Bc⟩;refine⟨_,I,Bc,λS=>?_⟩;have zq:=(Bc).size;refine azo S λu b12 Dj VE S=>azo S (λu b15 Af vN S=>?_);have e9:=VE;have e12:=vN;have z0:=(Dj).size;have z9:=(Af).size;refine Qo S (.q b15 0) (.i 0) (λS=>?_);exact .inr ⟨hv,b15,⟨some ⟨b12,0,none⟩,1,[m],none,0,[],0⟩,I,Z,S.kK 0,HD.ahL h hlim hst hw1 hh1 hb1 (Sx.On.fresh ho.cp (K00 Dj Af) Z) (S.kK 1) hEq Z (λe=>by have h:=S.apart; rw[aAE,aBZ]at h; exact h.1 (by simp[e])),HD.alX h hlim hv hst hw1 hh1 hb1,S.E⟩
def ApC(P:bF->Prop):Prop:=∀{K:Nat} {w:World} {s:aH} {e:aP},dL K w s->dw w->iy K w e->(∀n∈s.ns,n.lim)->e.node.lim->P e.key ->
 Calls prog 62 #[s.v,e.v] w λr w'=>∃(t:aH) (code:Int),r = .returned (.tuple #[t.v,.i code])∧XO w.heap.size K s e code t w'∧Ext w w'
theorem Gh{B m:Nat}{e:TypeId}{L:List α}{xs:List Value}{w:World}(hf:∀x,(f x).length=k)(ho:w.ownsRow B e k (.slice a m c) m xs)(hm:m=L.length)(hx:xs=L.flatMap f):aY B (λW=>aJ k f W (.slice a L.length c) L) w:=by
 subst hm; exact kX hf ho I hx
theorem PW{i:Nat}{w:World}{L:List α}(h:aJ k f w (.slice a L.length c) L)(hi:i<=L.length)(hf:∀x,(f x).length=k)(h1:∀x,(f x).all (·.oneCell')=true):dQ w k (.slice (pJ a 0 i k) i i) i ((L.take i).flatMap f):=by
 have:=nR (Dy h hi (aAa hi (iH h))) hf h1;rwa [aAN,aBw hi]at this
theorem afm{P:bF->Prop}(hA:ApC P){w0 w:World}{H:HD}(hP:P e.key)(hE:Ext w0 w)(hx:Bx w b H.cells.toArray)(hb:w0.heap.size<=b)(hcb:c<=b)(hok:H.Ok K)(hm:H.mem K c b w)(hk:H.k≠256)(hg:dw w)(he:iy K w e)(hel:e.node.lim) :
  Calls prog 34 #[.q b 0,e.v] w λr w'=>∃(H':HD) (code:Int),r = .returned (.i code)∧(H'.key,code)=H.key.put e.key∧H'.Ok K∧H'.mem K c b w'∧Ext w0 w'∧Ch b w w'∧Bx w' b H'.cells.toArray:=by
 obtain⟨sn,hxk⟩:∃z,H.ss[H.k]'hok.lt=z:=⟨_,I⟩;have hxm:sn∈H.ss:=hxk▸aAl _;have hle:=hok.le;have hlen:=hok.len;have hec:=iH (aAj hm).2.1;have hsc:=iH (aAj hm).1.1;refine azN func34 ntmps34 hE hx hb λS=>azo S (λu b2 E3 hb4 S=>?_);have hold:=λp hp=>(S.own p hp).1.1;have jZ:=S.E.size;have hbu:=(S.bx 1).1;have hwu:Ext w u:=E3;have hws:=hwu.size;refine Yp S Tryz.f34 1 λS iz=>Sx.delay 6 4 8 ?_;refine qJ S 8 [(11,λv w1=>∃t2:aH,v = .tuple #[t2.v,.i (dA sn.key e.key).2]∧t2.key=(dA sn.key e.key).1∧I64 t2.w∧I64 t2.h∧fA u.heap.size t2.s t2.ns w1∧∀n∈t2.ns,n.vT K),(7,λv w1=>∃t2:aH,v = .tuple #[t2.v,.i (dA sn.key e.key).2]∧t2.key=(dA sn.key e.key).1∧I64 t2.w∧I64 t2.h∧fA u.heap.size t2.s t2.ns w1∧∀n∈t2.ns,n.vT K),(12,λv w1=>∃t2:aH,v=t2.v∧t2.key=(dA sn.key e.key).1∧I64 t2.w∧I64 t2.h∧fA u.heap.size t2.s t2.ns w1∧∀n∈t2.ns,n.vT K),(13,λv w1=>v = .i (dA sn.key e.key).2),(5,λv w1=>∃b,v = .q b 0∧u.heap.size<=b∧w1.heap[b]?=some (.cells (List.toArray [.i 0,.i 0,.u 0,.u 0,.u 0,.u 0,.sn]) 65 (0,0))∧Bx w1 b (List.toArray [.i 0,.i 0,.u 0,.u 0,.u 0,.u 0,.sn]))] (λr=>[.mem 0 0,.hand 7 [],.hand 12 [],.hand 13 [],.hand 5 []]) (λx=>[sn.v,x 11,x 7,x 12,x 13,x 5]) (λx=>[(_,_,true,sn.v,9),(_,_,true,x 11,11)]) [[],[]] (λx=>[(5,x 5),(12,x 12),(13,x 13)]) ⟨λ_ _ _ k h=>by obtain⟨t2,e,h1,h2,h3,h4,h5⟩:=h; exact⟨t2,e,h1,h2,h3,az3 h4 k,h5⟩,λ_ _ _ k h=>by obtain⟨t2,e,h1,h2,h3,h4,h5⟩:=h; exact⟨t2,e,h1,h2,h3,az3 h4 k,h5⟩,λ_ _ _ k h=>by obtain⟨t2,e,h1,h2,h3,h4,h5⟩:=h; exact⟨t2,e,h1,h2,h3,az3 h4 k,h5⟩,λ_ _ _ _ h=>h,λ_ w1 w2 k h=>by obtain⟨b,e,h1,h2,h3⟩:=h; exact⟨b,e,h1,(k.block b (AZ h2).1).trans h2,h3.ext k⟩,G⟩ (λx=>⟨by intro u hC g F; exact(Jo (ev := .slice H.ea H.es.length H.ec) (r:=[.bool true]) ((S.kK 1).ext hC) (aAj ((az3 hm (K00 E3 hC)))).1.1 hok.lt hxk).mono λe w2 h=>⟨_,h.1,I,h.2⟩,by intro u hC g F; exact(hA (K:=K) (s:=sn) (e:=e) ((aAj ((az3 hm (K00 E3 hC)))).1.2 sn hxm) (dw.below hg (K00 hwu hC)) (he.below (K00 hwu hC)) (λn hn=>(hok.s sn hxm n hn).2) hel hP).mono λe w2 h=>by obtain⟨t2,aqc,rfl,D6,hb⟩:=h; exact⟨_,I,⟨t2,by rw[<-D6.1],by rw[<-D6.1],D6.2.2.1.1,D6.2.2.1.2.1,fA.le D6.2.1 hC.size,D6.2.2.2⟩,hb⟩,G⟩) (λac u x E6 F S=>?_) (hk:=λr=>⟨G,G,G,G,G⟩) (hl:=[(4,[11]),(5,[7]),(6,[7]),(7,[])]) (hH:=λx r=>⟨λo ho ρ u hs hE hρ hV F=>by obtain⟨F11,-⟩:=F; exact jA ho hs [(11,x 11)] (azV (hρ 11 O I)) (x 11) (aAT ho I I K01 F11),λo ho ρ u hs hE hρ hV F=>by obtain⟨F7,-⟩:=F; obtain⟨t2,e,h2⟩:=F7; exact jA ho hs [(7,.tuple #[t2.v,.i _])] (azV ((hρ 7 O I).trans e)) (t2.v) (aAT ho I I K01 ⟨t2,I,h2⟩),λo ho ρ u hs hE hρ hV F=>by obtain⟨F7,-⟩:=F; obtain⟨t2,e,h2⟩:=F7; exact jA ho hs [(7,.tuple #[t2.v,.i _])] (azV ((hρ 7 O I).trans e)) (.i _) (aAT ho I I K01 I),λo ho ρ u hs hE hρ hV F=>by exact Sx.Nc ho hs [] (λ_ _ h=>by cases h) [.i 0,.i 0,.u 0,.u 0,.u 0,.u 0,.sn] 65 (λb w' h1 h2 h3 h4=>aAT ho I I h4 ⟨b,I,aAa hE.size h1,h2,h3⟩),G⟩);refine zdb S (λS=>?_);obtain⟨F11,F7,FI,Ll,F5,-⟩:=F;clear F11;clear F7;obtain⟨t,e12,htk,htw,hth,htc,htf⟩:=FI;rw[e12]at S;try rw[e12]
 rw[Ll]at S;try rw[Ll]
 obtain⟨v5,F5,hb5,hv5,hx5⟩:=F5;rw[F5]at S;try rw[F5]
 have S:=S.lZ;have S:=S.adopt (A:=[.i 0,.i 0,.u 0,.u 0,.u 0,.u 0,.sn]) hx5 Z (λp hp=>by have:=hold p hp; omega) (λm hm=>by cases hm);have htm:=ai1 (e0:=65) O htc hv5;refine azq S 0 I (λu C7 S=>?_);have E8:=azr (K00 E3 E6) C7 (by have:=E3.size; omega);have E9:=azr (K00 E3 E6) C7 (by have:=E3.size; omega);have Xg:=(Sx.On.ch htm C7 Z);refine azm S (((dA sn.key e.key).2) != 0) (λhc13 S=>?_) (λhc13 S=>?_)
 .refine apB S (.i ((dA sn.key e.key).2)) (λS=>?_);exact⟨H,_,I,K12 (t:=(dA sn.key e.key).1) (by rw[K08 hok.lt,hxk]) (by simpa using hc13),hok,((az3 hm E8)),S.E,((Ch.trans (Ch.refl b w) (Ch.aT E9))),S.kK 2⟩
 have alY:Ext w u:=E8;have au8:=(S.bx 2).1;have hzc:(dA sn.key e.key).2=0:=by simpa using hc13
 have hw4:=(((Ch.trans (Ch.refl b w) (Ch.aT E9)))).size;refine Yp S Tryz.f34 4 (λS iz=>?_);refine zB S 20 [(32,λv w1=>∃m:aj,v=aP.v {e with node:=m}∧m.cp u.heap.size w1∧m.strip=e.node.strip),(33,λv w1=>∃(m:aj) (b:Nat),v = .slice (some ⟨b,0,none⟩) 1 1∧Bx w1 b (aP.cells {e with node:=m}).toArray∧m.cp u.heap.size w1∧m.strip=e.node.strip),(34,λv w1=>∃m:aj,w1.ownsRow u.heap.size 42 55 v (H.k+1) ((H.es.take H.k).flatMap aP.cells++aP.cells {e with node:=m})∧m.cp u.heap.size w1∧m.strip=e.node.strip)] (λr=>[.mem 2 1,.mem 2 2,.mem 2 2,.slc 0 H.k H.k H.ec,.mem 1 0,.hand 33 [],.hand 34 [(30,.slice (pJ H.ea 0 H.k 55) H.k H.k)]]) (λx=>[x 32,x 33,x 34]) (λx=>[(_,_,true,x 32,32)]) [[]] (λx=>[(34,x 34),(36,.q b 1)]) ⟨λ_ _ _ k h=>by obtain⟨m,e,h1,h2⟩:=h; exact⟨m,e,az3 h1 k,h2⟩,λ_ _ _ k h=>by obtain⟨m,b,e,h1,h2,h3⟩:=h; exact⟨m,b,e,h1.ext k,az3 h2 k,h3⟩,λ_ _ _ k h=>by obtain⟨m,h1,h2,h3⟩:=h; exact⟨m,Sx.dB h1 k,az3 h2 k,h3⟩,G⟩ (λx=>⟨by intro u hC g F; exact(xG (he.2.2.2.2.below (K00 alY hC)) hel).mono λe w2 h=>by obtain⟨m,rfl,hmc,hms,hb⟩:=h; exact⟨_,I,⟨m,I,FV hmc hC.size,hms⟩,hb⟩,G⟩) (λac u x Af F S=>?_) (hk:=λr=>⟨⟨azZ _,azS _,Z⟩,G,G,G⟩) (hl:=[(16,[32]),(17,[33])]) (hH:=λx r=>⟨λo ho ρ u hs hE hρ hV F=>by obtain⟨F32,-⟩:=F; obtain⟨m,e1,h1,h2⟩:=F32; exact wQ ho hs [(32,aP.v {e with node:=m})] (azV ((hρ 32 O I).trans e1)) (aP.cells {e with node:=m}) (some 1) (λv w' hn hE2=>aAT ho I I hE2 (by obtain⟨b,e2,-,h3⟩:=hn; exact⟨m,b,e2,h3,az3 h1 hE2,h2⟩)),λo ho ρ u hs hE hρ hV F=>by obtain⟨F33,-⟩:=F; obtain⟨m,b,e1,h1,h2,h3⟩:=F33; exact wS ho aqb (hV (30,_) az5) ((hρ 33 O I).trans e1) (PW (f:=aP.cells) (aAj (az3 ((az3 hm E8)) hE)).2.1 hle.1 (λ_=>I) (λ_=>I)) (oD (m:=1) (k:=55) (A:=aP.cells {e with node:=m}) h1) O (by show H.k+1<=9223372036854775807; omega) Z (λv' w' h hE2=>aAT ho I I hE2 ⟨m,Sx.ownsRow_base h hE.size,az3 h2 hE2,h3⟩),G⟩);refine Rf S (λS=>?_);obtain⟨F32,F33,F34,-⟩:=F;clear F32;clear F33;obtain⟨m,ho4,hmc,hms⟩:=F34;obtain⟨a4,c4,e4⟩:=Sx.lq ho4;rw[e4]at S ho4;try rw[e4]
 have hl4:(H.es.take H.k++[({e with node:=m}:aP)]).length=H.k+1:=by rw[azU,aAN,aCn]; omega
 have hr4:=Gh (f:=aP.cells) (L:=H.es.take H.k++[({e with node:=m}:aP)]) (λ_=>I) ho4 hl4.symm Y;refine azv S 2 I (λu J3 S=>?_);have BI:=(Sx.On.ch ((az3 hm (K00 E8 Af))) J3 Z);have nN:=(aI ((Ch.trans (Ch.refl b w) (Ch.aT (K00 E9 Af)))) J3);have Ac:=(Sx.On.ch ((az3 Xg Af)) J3 Z);have rZ:=(Sx.On.ch hr4 J3 Z);have vO:=(Sx.On.ch hmc J3 Z);have au9:=(S.bx 2).1;have hw5:=(nN).size;have jZ:=S.E.size;have hold:=λp hp=>(S.own p hp).1.1;have jZ:=S.E.size;refine Yp S Tryz.f34 5 (λS iz=>?_);refine zB S 21 [(54,iO u.heap.size t.cells (some 1)),(55,λv w1=>w1.ownsRow u.heap.size 65 7 v (H.k+1+1) ((H.ss.take (H.k+1)).flatMap aH.cells++t.cells))] (λr=>[.mem 2 0,.mem 2 2,.re 46 (.i (IntKind.i64.wrap ((H.k:Int)+1))) (.i (H.k+1:Nat)),.mem 2 2,.re 51 (.i (IntKind.i64.wrap ((H.k:Int)+1))) (.i (H.k+1:Nat)),.slc 0 (H.k+1) (H.k+1) H.sc,.mem 0 0,.new 54 t.cells (some 1) r,.hand 55 [(52,.slice (pJ H.sa 0 (H.k+1) 7) (H.k+1) (H.k+1))]]) (λx=>[x 54,x 55]) (λx=>[]) [] (λx=>[(55,x 55),(57,.q b 0)]) ⟨iO.mono,λ_ _ _ k h=>Sx.dB h k,G⟩ (λx=>G) (λac u x yO F S=>?_) (hN:=λr=>⟨⟨I,I⟩,G⟩) (hk:=λr=>⟨azA Z,azA Z,⟨azZ _,azS _,Z⟩,G,G,G⟩) (hl:=[(18,[54])]) (hH:=λx r=>⟨λo ho ρ u hs hE hρ hV F=>by obtain⟨F54,-⟩:=F; obtain⟨b,e1,-,h1⟩:=F54; exact wS ho aqa (hV (52,_) az5) ((hρ 54 O I).trans e1) (PW (f:=aH.cells) (aAj (az3 BI hE)).1.1 hok.lt (λ_=>I) (λ_=>I)) (oD (m:=1) (k:=7) (A:=t.cells) h1) O (by show H.k+1+1<=9223372036854775807; omega) Z (λv' w' h hE2=>aAT ho I I hE2 (Sx.ownsRow_base h hE.size)),G⟩);refine Rf S (λS=>?_);obtain⟨F54,F55,-⟩:=F;obtain⟨b25,F54,EP,X26⟩:=F54;have S:=S.adopt (A:=t.cells) X26 Z (λp hp=>by have:=hold p hp; omega) (λm hm=>by cases hm);obtain⟨a5,c5,e5⟩:=Sx.lq F55;rw[e5]at S F55;try rw[e5]
 have hl5:(H.ss.take (H.k+1)++[t]).length=H.k+1+1:=by rw[azU,aAN,aCn]; omega
 have hr5:=Gh (f:=aH.cells) (L:=H.ss.take (H.k+1)++[t]) (λ_=>I) F55 hl5.symm Y;refine azv S 3 I (λu EU S=>?_);have qR:=(Sx.On.ch ((az3 BI yO)) EU Z);have WG:=(aI ((Ch.trans nN (Ch.aT yO))) EU);have uM:=(Sx.On.ch ((az3 Ac yO)) EU Z);have wG:=(Sx.On.ch ((az3 rZ yO)) EU Z);have Dq:=(Sx.On.ch ((az3 vO yO)) EU Z);have yR:=(Sx.On.ch hr5 EU Z);refine adr S 7 [] [.mem 3 2,.re 62 (.i (IntKind.i64.wrap ((H.k:Int)+1))) (.i (H.k+1:Nat))] (hk:=⟨azA Z,G⟩) λS=>azv S 3 I (λu Dh S=>?_);have S:=S.fl;have yM:=(Sx.On.ch qR Dh Z);have wH:=(aI WG Dh);have Ad:=(Sx.On.ch uM Dh Z);have Dt:=(Sx.On.ch wG Dh Z);have wI:=(Sx.On.ch Dq Dh Z);have Aa:=(Sx.On.ch yR Dh Z);obtain⟨p1,p2⟩:=hok.put hk (t:=t) (d:=({e with node:=m}:aP)) (e:=e.key) (by rw[hxk]; exact Prod.ext htk hzc.symm) (by show bF.mk _ _ _ _ m.key _=_; rw[IE hms]; rfl) htf (uT ⟨he.2.2.2.2.2,hel⟩ hms) a5 a4 c5 c4;refine apB S (.i 0) (λS=>?_);exact⟨_,0,I,p2,p1,K13 yM (aBu Aa λi hi=>⟨Z,Z⟩) (aAD (aBu Ad λi hi=>⟨Z,Z⟩) λW h=>⟨htw,hth,h.1.1,λn hn=>⟨(h.2 n hn).1,(htf n hn).1⟩⟩) (aBu Dt λi hi=>⟨Z,Z⟩) (aAD (aBu wI λi hi=>⟨Z,Z⟩) λW h=>⟨he.1,he.2.1,he.2.2.1,he.2.2.2.1,h.1,(uT ⟨he.2.2.2.2.2,hel⟩ hms).1⟩),S.E,wH,(by show Bx _ _ (List.toArray [.slice a5 (H.ss.take (H.k+1)++[t]).length c5,.slice a4 (H.es.take H.k++[({e with node:=m}:aP)]).length c4,.i (H.k+1:Nat),.bool true]); rw[hl5,hl4]; exact S.kK 3)⟩
