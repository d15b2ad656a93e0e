/- Package scene: Apply. A history -/
import Derived.Test.YtodpgjjgaddkeaaGreatDoorScW5
set_option maxRecDepth 100000
set_option maxHeartbeats 9999999
open Go renaming World->Á,Value->À,Calls->Ä,wpList->Ð,TypeId->á,execOp->Ù,Addr->Ĥ
open Go.Proofs.Tryz
set_option linter.unusedVariables false
set_option linter.unusedSimpArgs false
namespace Go.Proofs.Pv
section
open Go.RowKit Go.Sx
variable{α:Type}{K:Nat}
variable{m s t:aA}{e:aP}{b:Nat}{code:Int}
abbrev aa9{B:Nat}{u1 u2 u3:Á}(h:m.own B u1)(hE:Ext u1 u2)(hC:Ch b u2 u3)(hb:b<B∨u1.heap.size<=b) :
  m.own B u3∧m.s.ownBlock≠some b∧Sx.On (λi=>B<=i∧i≠b∧m.s.ownBlock≠some i) (λW=>∀n∈m.ns,n.oZ B W) u3:=by
 have hr2:=Sx.dO h.row hE;have hob:m.s.ownBlock≠some b:=λe=>by have:=iq h.row e; omega
 have hn:Sx.On (λi=>B<=i∧i≠b∧m.s.ownBlock≠some i) (λW=>∀n∈m.ns,n.oZ B W) u3:=λw' hs hk =>
  h.nodes w' (ï (ï hE.size hC.size) hs) λk h1 h2=>by
   have hkb:k≠b:=Z
   have h3:k<u2.heap.size:=ā h1 hE.size
   exact((hk k (ā h3 hC.size) ⟨h2.1,hkb,h2.2⟩).trans (hC.block k h3 λe=>hkb (Ü e))).trans (hE.block k h1)
 exact⟨⟨kY hr2 λg hg=>hC.block g (iq hr2 hg).2 λe=>hob (hg.trans e),hn.mono λi hi=>⟨hi.1,hi.2.2⟩⟩,hob,hn⟩
abbrev own_base{B B':Nat}{u:Á}(hB:B'<=B)(h:m.own B u∧m.s.ownBlock≠some b∧Sx.On (λi=>B<=i∧i≠b∧m.s.ownBlock≠some i) (λW=>∀n∈m.ns,n.oZ B W) u) :
  m.own B' u∧m.s.ownBlock≠some b∧Sx.On (λi=>B'<=i∧i≠b∧m.s.ownBlock≠some i) (λW=>∀n∈m.ns,n.oZ B' W) u:=
 ⟨⟨bK h.1.row hB,(h.1.nodes.mono λi hi=>⟨ï hB hi.1,hi.2⟩).imp λ_ k n hn=>Eb (k n hn) hB⟩,h.2.1,(h.2.2.mono λi hi=>⟨ï hB hi.1,hi.2⟩).imp λ_ k n hn=>Eb (k n hn) hB⟩
def Xi(base:Nat)(K:Nat)(s:aA)(e:aP)(code:Int)(t:aA)(w:Á):Prop:=
 (t.key,code)=fD s.key e.key∧gB base t.s t.ns w∧bM K w t∧∀n∈t.ns,n.xE K
abbrev su{base:Nat}{w:Á}(h:fD s.key e.key=(.zero,code)):Xi base K s e code .zero w:=
 ⟨h.symm,Ă (fP (f:=ah.cells) (L:=[]) (λ_=>I) ⟨I,.inl ⟨I,I⟩⟩ I I) (λ_ _ _ n hn=>by cases hn),Iy w,λn hn=>(by cases hn)⟩
abbrev ahQ(hd:I64 e.depth)(hv:s.key.valid=true)(hn:e.key.named=true)(hk:keys m.ns=keys s.ns)(hr:aeR m e code t)(hc:code≠0):fD s.key e.key=(.zero,code):=by
 rw[<-MB hd];unfold Ov;rw[É (by simp[hv]),É (by simp[hn])];have h1:=hr.1;rw[hk]at h1;rw[show s.key.ns=keys s.ns from rfl];cases hp:fO (keys s.ns) e.key with
 | error n=>rw[hp]at h1; rw[show code=n from h1]
 | ok l=>rw[hp]at h1; exact absurd h1.1 hc
abbrev aeS(hd:I64 e.depth)(hv:s.key.valid=true)(hn:e.key.named=true)(hk:keys m.ns=keys s.ns)(h3:m.w=s.w∧m.h=s.h∧m.bg=s.bg)(hr:aeR m e 0 t)(hne:∀n,fO (keys s.ns) e.key = .error n->n≠0):fD s.key e.key=if t.key.chk.1=0 then (t.key,0)else (.zero,t.key.chk.1):=by
 rw[<-MB hd];unfold Ov;rw[É (by simp[hv]),É (by simp[hn])];have h1:=hr.1;rw[hk]at h1;rw[show s.key.ns=keys s.ns from rfl];cases hp:fO (keys s.ns) e.key with
 | error n=>rw[hp]at h1; exact absurd h1.symm (hne n hp)
 | ok l =>
  rw[hp]at h1;have ht:s.key.with' e.key l=t.key:=by
   unfold aV.with' aA.key;rw[hr.2.1,hr.2.2,h1.2.2,<-h1.2.1,h3.1,h3.2.1,h3.2.2];rfl
  simp only[ht]
abbrev Jz{l:List aN}{e:bH}{n:Int}(h:fO l e = .error n):n≠0:=by
 unfold fO jy at h;(repeat' split at h)<;>first | (cases h; decide) | cases h
abbrev TF{w:Á}(h:bM K w s)(hg:bZ w)(he:jd K w e)(hlim:∀n∈s.ns,n.lim)(hel:e.node.lim) :
  Ä prog 62 #[s.v,e.v] w λr w'=>∃(t:aA) (code:Int),r = .R (.tuple #[t.v,.i code])∧Xi w.heap.size K s e code t w'∧Ext w w':=by
 skip;refine Ë func62 ntmps62 λS=>Í S λu b2 E3 hb4 S=>Í S λu b5 E6 hb7 S=>Í S λu b8 E9 tX S=>Å S 2 [] [.M 2 0] λS=>Þ S (xA (h.below S.E) (hg.below S.E)) λu zu S=>È S (!s.key.valid) (λoh S=>?_) (λoh S=>?_)
 .refine à S 0 I λu Ź S=>Xj S 0 I (v := .agg (aA.cells .zero).toArray) (u := .i 18) (λS=>⟨.zero,_,I,su (by unfold fD; rw[Ï (by simpa using oh)]),S.E⟩)
 refine Å S 1 [] [.M 1 0] λS=>Þ S (aa1 (he.below S.E)) λu KN S=>È S (!e.key.named) (λrG S=>?_) (λrG S=>?_)
 .refine à S 0 I λu C22 S=>Xj S 0 I (v := .agg (aA.cells .zero).toArray) (u := .i 2) (λS=>⟨.zero,_,I,su (by unfold fD; rw[É (by have:=oh; simp at this; simp[this]),Ï (by simpa using rG)]),S.E⟩)
 have hE0:=S.E;have aeT:=(S.bx 0).1;have anP:=(S.bx 1).1;have ak8:=(S.bx 2).1;obtain⟨wc,hwc⟩:∃z:Á,z=u:=⟨_,I⟩;rw[<-hwc]at hE0 aeT anP ak8;have hcw:Ext wc u:=hwc▸ô;have hv:s.key.valid=true:=by simpa using oh
 have hno:e.key.named=true:=by simpa using rG
 have hsl:s.ns.length<=64:=by have:=(aV.oV.1 hv).2.1; rwa [show s.key.ns.length=s.ns.length from Ģ ..]at this
 have hwl:=(hcw).size;refine Å S 1 [] [.M 2 0] λS=>î S (rW (h.below S.E) hlim Z) ?_;rintro e u ⟨m,rfl,hmo,hms,hmw,hmh,hmb,EK⟩;refine⟨_,I,EK,λS=>?_⟩;have hwz:=((Ã hcw EK)).size;refine Í S (λu b25 Qn Oj S=>?_);have hge:wc.heap.size<=b25:=Z
 refine à S 0 I (λu Xk S=>?_);have BF:=Ö (Ã EK Qn) Xk (by have:=EK.size; omega);have hmw:=And.intro hmw (And.intro hmh hmb);have ald:=(own_base hwl (aa9 hmo Qn Xk (.inr (ayK Oj.symm))));have hml:m.ns.length=s.ns.length:=by have:=Ñ List.length hms; simpa using this
 refine Å S 1 [] [.M 2 0] λS=>ċ S λS=>LQ S (some 19) hE0 ((Ã hcw BF)) (λp hp=>by rcases ç.1 hp with rfl | hp; exact aeT; rcases ç.1 hp with rfl | hp; exact anP; rcases ç.1 hp with rfl | hp; exact ak8; cases hp) (Xl (K:=K) (w0:=wc) ((Ã hcw BF)) (S.pV 0) hge ald.1 ald.2.1 ald.2.2 (λn hn=>⟨fits_all hms (λn hn=>(h.2.2.2 n hn).2) n hn,AZ hms hlim n hn⟩) (he.below hE0) hel Z) ?_;rintro r u ⟨code,t,rfl,hE2,hX,hcp,hft,hres⟩;refine⟨_,t.cells,I,hE2,hX,λac S=>?_⟩;refine Y9 S (λS=>?_);have htw:I64 t.w∧I64 t.h:=by rw[hres.2.1,hres.2.2,hmw.1,hmw.2.1]; exact⟨h.1,h.2.1⟩
 have hkm:keys m.ns=keys s.ns:=AY hms;refine È S ((code)==0) (λuH S=>?_) (λuH S=>?_)
 .refine Å S 1 [] [.M 0 0] λS=>Þ S (ES (K:=K) (s:=t) ⟨htw.1,htw.2,gB.ok (hcp) λn hn=>(hft n hn).1⟩ (hg.below S.E)) λu Yw S=>È S ((t.key.chk.1) != 0) (λqV S=>?_) (λqV S=>?_)
  .refine à S 1 I (λu C39 S=>?_);have S:=S.fl;have Ea:=dD.ch (ò hcp Yw) C39 aeT;have hc0:code=0:=by simpa using uH
   have hap:=aeS he.2.2.2.1 hv hno hkm hmw (hc0▸hres) λn h=>Jz h;refine Xj S 1 I (v := .agg (aA.cells .zero).toArray) (u := .i t.key.chk.1) (λS=>⟨.zero,_,I,su (by rw[hap,É (by simpa using qV)]),S.E⟩)
  refine Å S 1 [] [.M 0 0] λS=>à S 1 I (λu C42 S=>?_);have FX:=dD.ch (ò hcp Yw) C42 aeT;have hc0:code=0:=by simpa using uH
  have hap:=aeS he.2.2.2.1 hv hno hkm hmw (hc0▸hres) λn h=>Jz h;refine Xj S 1 I (v := .agg (aA.cells t).toArray) (u := .i 0) (λS=>⟨t,_,I,⟨by rw[hap,Ï (by simpa using qV)],gB.le (FX) hE0.size,⟨htw.1,htw.2,gB.ok (FX) λn hn=>(hft n hn).1⟩,hft⟩,S.E⟩)
 have hne:((code) != 0)=true:=by have:=uH; simpa using this
 refine È S ((code) != 0) (λFP S=>?_) (λFP S=>?_)
 .refine à S 1 I (λu Ž S=>?_);have aat:=dD.ch hcp Ž aeT;refine Xj S 1 I (v := .agg (aA.cells .zero).toArray) (u := .i code) (λS=>⟨.zero,_,I,su (ahQ he.2.2.2.1 hv hno hkm hres (by simpa using hne)),S.E⟩)
 rw[hne]at FP; cases FP
end
section
open Go.RowKit Go.Sx
variable{K:Nat}
structure HK where
 ss:List aV
 es:List bH
 k:Nat
def HK.now(h:HK):aV:=(h.ss[h.k]?).getD .zero
noncomputable def HK.put(h:HK)(e:bH):HK×Int:=if (fD h.now e).2=0 then (⟨h.ss.take (h.k+1)++[(fD h.now e).1],h.es.take h.k++[e],h.k+1⟩,0)else (h,(fD h.now e).2)
noncomputable def HK.app(h:HK)(e:bH):HK×Int:=if h.k=256 then (h,5)else h.put e
def HK.undo(h:HK):HK×Int:=if h.k=0 then (h,20)else (⟨h.ss,h.es,h.k-1⟩,0)
def HK.redo(h:HK):HK×Int:=if h.k=h.es.length then (h,20)else (⟨h.ss,h.es,h.k+1⟩,0)
structure HK.Ok (h:HK):Prop where
 hs:Hs h.ss h.es
 k:h.k<=h.es.length
 most:h.es.length<=256
abbrev HK.Ok.at{h:HK}(o:h.Ok):h.ss[h.k]?=some h.now:=by
 have:=o.hs.len;have:=o.k;unfold HK.now;rw[List.getElem?_eq_getElem Z]; rfl
abbrev HK.Ok.put{h:HK}(o:h.Ok)(hk:h.k≠256)(e:bH):(h.put e).1.Ok:=by
 unfold HK.put;have hl:=o.k;have hm:=o.most;split
 .rename_i ha;exact⟨Hs.put o.hs o.at (Prod.ext I ha),(by show h.k+1<=(h.es.take h.k++[e]).length; simp; omega),(by show(h.es.take h.k++[e]).length<=256; simp; omega)⟩
 exact o
abbrev HK.Ok.app{h:HK}(o:h.Ok)(e:bH):(h.app e).1.Ok:=by
 unfold HK.app;split
 .exact o
 rename_i hk; exact o.put hk e
abbrev HK.Ok.undo{h:HK}(o:h.Ok):h.undo.1.Ok:=by
 unfold HK.undo;have:=o.k;split
 .exact o
 exact⟨o.hs,(by show h.k-1<=h.es.length; omega),o.most⟩
abbrev HK.Ok.redo{h:HK}(o:h.Ok):h.redo.1.Ok:=by
 unfold HK.redo;have:=o.k;split
 .exact o
 exact⟨o.hs,(by show h.k+1<=h.es.length; omega),o.most⟩
structure HD where
 sa:Option Ĥ
 sc:Nat
 ss:List aA
 ea:Option Ĥ
 ec:Nat
 es:List aP
 k:Nat
def HD.cells(H:HD):List À:=[.s H.sa H.ss.length H.sc,.s H.ea H.es.length H.ec,.i H.k,.b true]
def HD.key(H:HD):HK:=⟨H.ss.map aA.key,H.es.map aP.key,H.k⟩
def HD.row(K:Nat)(H:HD)(W:Á):Prop:=(aI 7 aA.cells W (.s H.sa H.ss.length H.sc) H.ss∧∀s∈H.ss,bM K W s)∧aI 55 aP.cells W (.s H.ea H.es.length H.ec) H.es∧∀e∈H.es,jd K W e
structure HD.Ok (K:Nat) (H:HD):Prop where
 k:H.key.Ok
 s:∀s∈H.ss,∀n∈s.ns,n.xE K
 e:∀e∈H.es,e.node.xE K
abbrev HD.mem (K c b:Nat)(H:HD)(w:Á):Prop:=Sx.On (λi=>c<=i∧i≠b) (H.row K) w
abbrev HD.Ok.len{H:HD}(h:H.Ok K):H.ss.length=H.es.length+1:=by have:=h.k.hs.len; unfold HD.key at this; simpa using this
abbrev HD.Ok.le{H:HD}(h:H.Ok K):H.k<=H.es.length∧H.es.length<=256:=by
 have h1:=h.k.k;have h2:=h.k.most;unfold HD.key at h1 h2;simp only[Ģ]at h1 h2;exact⟨h1,h2⟩
abbrev HD.Ok.lt{H:HD}(h:H.Ok K):H.k<H.ss.length:=by have:=h.len; have:=h.le; omega
abbrev K09{H:HD}(hk:H.k<H.ss.length):H.key.now=(H.ss[H.k]).key:=by
 unfold HK.now HD.key;simp only[List.getElem?_map,List.getElem?_eq_getElem hk]; rfl
abbrev HD.Ok.val{H:HD}(h:H.Ok K){s:aA}(hs:s∈H.ss):s.key.valid=true:=h.k.hs.val _ (Ć.2 ⟨s,hs,I⟩)
abbrev Di{s:aA}(h:s.key.valid=true):s.ns.length<=64:=by
 have:=(aV.oV.1 h).2.1;rwa [show s.key.ns.length=s.ns.length from Ģ ..]at this
abbrev HD.Ok.put{H:HD}(h:H.Ok K)(hk:H.k≠256){t:aA}{d:aP}{e:bH}(ha:(t.key,(0:Int))=fD (H.ss[H.k]'h.lt).key e)(hd:d.key=e)(ht:∀n∈t.ns,n.xE K)(hde:d.node.xE K)(sa ea:Option Ĥ)(sc ec:Nat) :
  HD.Ok K ⟨sa,sc,H.ss.take (H.k+1)++[t],ea,ec,H.es.take H.k++[d],H.k+1⟩∧(HD.key ⟨sa,sc,H.ss.take (H.k+1)++[t],ea,ec,H.es.take H.k++[d],H.k+1⟩,(0:Int))=H.key.put e:=by
 rw[<-K09 h.lt]at ha;have e1:(HD.key ⟨sa,sc,H.ss.take (H.k+1)++[t],ea,ec,H.es.take H.k++[d],H.k+1⟩,(0:Int))=H.key.put e:=by
  unfold HK.put;rw[<-ha];simp[HD.key,hd]
 refine⟨⟨?_,λs hs=>?_,λx hx=>?_⟩,e1⟩
 .have:=h.k.put hk e;rw[<-e1]at this;exact this
 .rcases đ.1 hs with hs | hs
  .exact h.s s (ţ hs)
  rw[Ā.1 hs]; exact ht
 rcases đ.1 hx with hx | hx
 .exact h.e x (ţ hx)
 rw[Ā.1 hx]; exact hde
abbrev HK.aeU{h:HK}{t:aV}{n:Int}{e:bH}(ha:(t,n)=fD h.now e)(hn:n≠0):(h,n)=h.put e:=by
 unfold HK.put;rw[<-ha,É hn]
abbrev HD.ahR{H:HD}{B:Nat->Prop}{b:Nat}{w:Á}{t:aA}{d:aP}{sa ea:Option Ĥ}{sc ec:Nat}(hm:Sx.On (λi=>B i∧i≠b) (H.row K) w)
  (hr:Sx.On (λi=>B i∧i≠b) (λW=>aI 7 aA.cells W (.s sa (H.ss.take (H.k+1)++[t]).length sc) (H.ss.take (H.k+1)++[t])) w) (ht:Sx.On (λi=>B i∧i≠b) (λW=>bM K W t) w)
  (hr2:Sx.On (λi=>B i∧i≠b) (λW=>aI 55 aP.cells W (.s ea (H.es.take H.k++[d]).length ec) (H.es.take H.k++[d])) w) (hd:Sx.On (λi=>B i∧i≠b) (λW=>jd K W d) w) :
  Sx.On (λi=>B i∧i≠b) (HD.row K ⟨sa,sc,H.ss.take (H.k+1)++[t],ea,ec,H.es.take H.k++[d],H.k+1⟩) w:=by
 refine ē (Ă hm (Ă hr (Ă ht (Ă hr2 hd)))) λW ⟨⟨⟨_,o1⟩,_,o2⟩,q1,q2,q3,q4⟩=>⟨⟨q1,λs hs=>?_⟩,q3,λx hx=>?_⟩
 .rcases đ.1 hs with hs | hs
  .exact o1 s (ţ hs)
  rw[Ā.1 hs]; exact q2
 rcases đ.1 hx with hx | hx
 .exact o2 x (ţ hx)
 rw[Ā.1 hx]; exact q4
abbrev K07{H:HD}{c b:Nat}{w w':Á}(hm:H.mem K c b w)(hc:Ch b w w'):H.mem K c b w':=λw2 hs hk=>hm w2 (ï hc.size hs) λi hi hB=>(hk i (ā hi hc.size) hB).trans (hc.block i hi (λe=>by simp only[Ò]at e; exact hB.2 e))
abbrev MX{l m:List aj}(h:l.map aj.key=m.map aj.key)(hf:∀p∈l,p.t.fit K)(hK:K<=10000)(hm:∀p∈m,p.lim):∀p∈l,p.lim:=λp hp=>by
 have hq:p.key∈m.map aj.key:=h▸Ć.2 ⟨p,hp,I⟩;obtain⟨q,hq,e⟩:=Ć.1 hq;have hl:=hm q hq;have e1:=Ñ (λx:sV=>x.stops.length) e;have e2:=Ñ (λx:sV=>x.img.l.length) e;exact⟨(show q.stops.length=p.stops.length from e1)▸hl.1,(show q.img.l.length=p.img.l.length from e2)▸hl.2.1,(hf p hp).up Z⟩
abbrev Ze{n m:ah}(h:n.key=m.key)(hf:n.Si K)(hm:m.lim):n.lim:=by
 have e1:n.clip.length=m.clip.length:=Ñ (λx:aN=>x.clip.length) h;have e2:n.path.length=m.path.length:=Ñ (λx:aN=>x.path.length) h;have e3:n.fill.map aj.key=m.fill.map aj.key:=Ñ aN.fill h;have e4:n.stroke.map aj.key=m.stroke.map aj.key:=Ñ aN.stroke h;have e5:n.style.dash.length=m.style.dash.length:=Ñ (λx:aN=>x.style.dash.length) h;have e6:n.img.l.length=m.img.l.length:=Ñ (λx:aN=>x.img.l.length) h;have e7:n.fill.length=m.fill.length:=by simpa using Ñ List.length e3
 have e8:n.stroke.length=m.stroke.length:=by simpa using Ñ List.length e4
 obtain⟨k1,k2,k3,k4,k5,k6,k7,k8,k9⟩:=hm;obtain⟨f1,f2,f3,f4,f5⟩:=hf;exact⟨f1.up Z,Z,Z,Z,MX e3 f2 f5 k5,Z,Z,MX e4 f3 f5 k8,Z⟩
abbrev aeV{l m:List ah}(h:l.map ah.key=m.map ah.key)(hf:∀n∈l,n.Si K)(hm:∀n∈m,n.lim):∀n∈l,n.lim:=λn hn=>by
 have hq:n.key∈m.map ah.key:=h▸Ć.2 ⟨n,hn,I⟩;obtain⟨q,hq,e⟩:=Ć.1 hq;exact Ze e.symm (hf n hn) (hm q hq)
end
section
open Go.RowKit Go.Sx
variable{α:Type}{K base:Nat}{w w':Á}{e0:á}
def Sp(e0:á)(w w':Á):Prop:=w.heap.size<=w'.heap.size∧∀(g:Nat) (cur:Array À) (e:á),e≠e0->w.heap[g]?=some (.cells cur e (0,0))->w'.heap[g]?=w.heap[g]?
variable{v:À}{e:á}{k:Nat}{f:α->List À}
abbrev Dj{n:Nat}(he:e≠e0)(h:Sx.Ty e k base v n w)(hs:Sp e0 w w'):Sx.Ty e k base v n w':=by
 rcases h with h | ⟨g,cap,cur,h1,h2,h3,h4⟩
 .exact .inl h
 exact .inr ⟨g,cap,cur,h1,h2,(hs.2 g cur e he h3).trans h3,h4⟩
abbrev Bj{L:List α}(he:e≠e0)(h:aI k f w v L)(ht:Sx.Ty e k base v L.length w)(hs:Sp e0 w w'):aI k f w' v L:=by
 obtain⟨a,cap,rfl,hm,hc⟩:=h;refine⟨a,cap,I,hm,?_⟩;rcases hc with hc | ⟨b,o,rfl,hlt,hl,hcell⟩
 .exact .inl hc
 rcases ht with h0 | ⟨g,cap',cur,h1,h2,h3,h4⟩
 .have hL:=Ŝ h0;subst hL;exact .inr ⟨b,o,I,ā hlt hs.1,hl,λi hi=>absurd hi (Nat.not_lt_zero _)⟩
 simp only[Ĉ,Ò,Ÿ,and_true,true_and]at h1;obtain⟨⟨rfl,rfl⟩,rfl⟩:=h1;exact .inr ⟨b,0,I,ā hlt hs.1,hl,λi hi j hj=>(World.cell?_of_block (a:=⟨b,0+i*k+j,none⟩) (hs.2 b cur e he h3)).trans (hcell i hi j hj)⟩
abbrev Zf{L:List α}(he:e≠e0)(h:jY e k f base v L w)(hs:Sp e0 w w'):jY e k f base v L w':=⟨Bj he h.1 h.2 hs,Dj he h.2 hs⟩
abbrev JA{f:α->À}{L:List α}(he:e≠e0)(h:dJ f w v L)(ht:Sx.Ty e 1 base v L.length w)(hs:Sp e0 w w'):dJ f w' v L:=gq (Bj he (eF h) ht hs)
def Odd(e0:á):Prop:=119≠e0∧202≠e0∧178≠e0∧133≠e0∧163≠e0∧3≠e0∧38≠e0
instance:Decidable (Odd e0):=by unfold Odd; infer_instance
abbrev Em{r:bn}(he:Odd e0)(h:r.oZ base w)(hs:Sp e0 w w'):r.oZ base w':=⟨⟨JA he.1 h.1.1 h.2.1 hs,JA he.1 h.1.2 h.2.2 hs⟩,Dj he.1 h.2.1 hs,Dj he.1 h.2.2 hs⟩
abbrev aeW{t:aT}(he:Odd e0)(h:t.oZ base w)(hs:Sp e0 w w'):t.oZ base w':=⟨Em he h.1 hs,Em he h.2.1 hs,Em he h.2.2.1 hs,Em he h.2.2.2.1 hs,Em he h.2.2.2.2.1 hs,Em he h.2.2.2.2.2 hs⟩
abbrev aeX{p:aj}(he:Odd e0)(h:p.oZ base w)(hs:Sp e0 w w'):p.oZ base w':=by
 obtain⟨ho,t1,t2,ht⟩:=h;have ht':=aeW he ht hs;refine⟨?_,Dj he.2.1 t1 hs,Dj he.2.2.1 t2 hs,ht'⟩;unfold aj.ok at *;simp only[dA.ok]at *;obtain⟨a1,a2,a3,a4,a5,a6,a7,a8,a9,a10⟩:=ho;exact⟨a1,a2,a3,a4,Bj he.2.1 a5 t1 hs,a6,a7,⟨a8.1,a8.2.1,Bj he.2.2.1 a8.2.2 t2 hs⟩,a9,ht'.ok⟩
abbrev MZ{l:List aj}(he:Odd e0)(h:kF base w v l)(hs:Sp e0 w w'):kF base w' v l:=⟨Zf he.2.2.2.1 h.1 hs,λp hp=>aeX he (h.2 p hp) hs⟩
abbrev ahS{n:ah}(he:Odd e0)(h:n.oZ base w)(hs:Sp e0 w w'):n.oZ base w':=by
 obtain⟨ho,t,c,p,f,s,d,m⟩:=h;have t':=aeW he t hs;have f':=MZ he f hs;have s':=MZ he s hs;refine⟨?_,t',Dj he.2.2.2.2.1 c hs,Dj he.2.2.2.2.1 p hs,f',s',Dj he.2.2.2.2.2.1 d hs,Dj he.2.2.1 m hs⟩;unfold ah.ok at *;simp only[dA.ok,aY.ok]at *;obtain⟨h1,h2,h3,h4,h5,h6,h7,h8,h9,h10,⟨s1,s2,s3,s4,s5,s6,s7⟩,h12,⟨i1,i2,i3⟩,LY⟩:=ho;exact⟨h1,h2,h3,t'.ok,⟨Bj he.2.2.2.2.1 h5.1 c hs,h5.2⟩,h6,h7,⟨Bj he.2.2.2.2.1 h8.1 p hs,h8.2⟩,h9,f'.ok,⟨s1,s2,s3,s4,JA he.2.2.2.2.2.1 s5 d hs,s6,s7⟩,s'.ok,⟨i1,i2,Bj he.2.2.1 i3 m hs⟩,LY⟩
abbrev abb{l:List ah}(he:Odd e0)(h:Ec base v l w)(hs:Sp e0 w w'):Ec base v l w':=⟨Zf he.2.2.2.2.2.2 h.1 hs,λn hn=>ahS he (h.2 n hn) hs⟩
open Go.Sx Go.Rel in
abbrev _root_.Go.Sx.abd{P:Program}{w:Á}{os:List Oper}{i:Nat}{o:Oper}{ρ:Operand->À}(ho:os[i]?=some o)(hs:Std ρ)(l:List (Nat×À))(hl:∀q v,l.lookup q=some v->ρ (.tmp q)=v)(A:List À)(ty:á){Post:À->Á->Prop}(hT:∀b w',w.heap.size<=b->w'.heap[b]?=some (.cells A.toArray ty (0,0))->Bx w' b A.toArray->Ext w w'->Post (.pointer (some ⟨b,0,Option.none⟩)) w')
  (hx:∀r,((os[i]?).bind λo=>wS P r [o] l).map (λq=>(q.1,q.2.1,q.2.2.1,q.2.2.2.isSome))=some (A,ty,Z5 Option.none r,true):=by intro r; kernel_rfl):Does P o ρ w Post:=by
 have hx:=hx w.heap.size;rw[ho,Ο]at hx;unfold wS at hx;simp only at hx;split at hx
 .rename_i A' ty' k' hg hav hev;split at hx
  .rename_i v hv;simp only[Ę,Ò,Ô]at hx;obtain⟨rfl,rfl,rfl,hd⟩:=hx;simp only[Ĕ]at hav;have hH:Holds ρ (lift l):=λq x hq=>by
    rw[jm]at hq;cases h2:l.lookup q with
    | none=>simp[h2]at hq
    | some u =>
     simp only[h2,Ę,Ò]at hq;subst hq;rw[hl q u h2]; rfl
   have hc:Ù ρ o=Ù (zi (lift l) []) o:=by
    refine execOp_congr o (λcs b e1=>by rw[e1]at hav; cases hav.1) λx hx=>?_;have h2:=hav.2;simp only[Ő,ϑ]at h2;obtain⟨z,hz⟩:=į.1 (h2 x hx);rw[gK hs (gG hH o x hx) (p:=[]) I hz];simp[zi,hz]
   have hv':ev0 P k'=some (.value (Z5 Option.none w.heap.size)):=by
    unfold iT at hv;split at hv
    .rename_i h; obtain h2:=Ü hv; rw[h]; simp only[FH.val.injEq]at h2; rw[h2]
    .cases hv
    cases hv
   have hrun:(Ù ρ o).run P w = .ok (.value (Z5 Option.none w.heap.size)) (w.alloc (.cells A'.toArray ty')):=by rw[hc,nD hev,nY hv']
   unfold Does;rw[hrun];exact hT _ _ (Ó _) (by unfold World.alloc; exact Array.getElem?_push_size) (Hl _ _ _) (aH _ _)
  simp at hx
 simp at hx
end
section
open Go.RowKit Go.Sx
variable{α:Type}{K:Nat}
abbrev _root_.Go.Sx.On.ch{B:Nat->Prop}{F:Á->Prop}{w w':Á}{x:Nat}(h:Sx.On B F w)(hc:Ch x w w')(hx:¬B x):Sx.On B F w':=λw2 hs hk =>
 h w2 (ï hc.size hs) λi hi hB=>(hk i (ā hi hc.size) hB).trans (hc.block i hi (λe=>by simp only[Ò]at e; exact hx (e▸hB)))
variable{c b k:Nat}{e:aP}{A:Array À}{f:α->List À}
abbrev anQ{w:Á}(h:Bx w b A):Sx.On (λi=>i=b) (λW=>Bx W b A) w:=λw' hs hk =>
 have e:=hk b h.1 I
 ⟨ā h.1 hs,λi=>by rw[World.cell?_of_block (a:=⟨b,i,none⟩) e]; exact h.2.1 i,λi=>by rw[World.frozen?_of_block (a:=⟨b,i,none⟩) e]; exact h.2.2 i⟩
abbrev anR:gu prog 44 65 (.agg aA.zero.cells.toArray) 7 48:=⟨underlying44,info_parts X,I,by decide⟩
abbrev aqC:gu prog 45 42 (.agg (aP.cells ⟨0,0,0,0,fM,.none⟩).toArray) 55 696:=⟨underlying45,info_parts X,I,by decide⟩
abbrev anS{base:Nat}{e0:á}{fz:Nat×Nat}{v:À}{l:List ah}{w:Á}(he:Odd e0)(h:gB base v l w)(hb:w.heap[b]?=some (.cells A e0 fz)):Sx.On (λk=>base<=k∧k≠b) (Ec base v l) w:=λw2 hs hk=>by
 have hbw:b<w.heap.size:=(Array.getElem?_eq_some_iff.1 hb).1;obtain⟨w3,hw3⟩:∃z:Á,z={w2 with heap:=w2.heap.setIfInBounds b (.cells A e0 fz)}:=⟨_,I⟩;have hg:∀g,w3.heap[g]?=if g=b then some (.cells A e0 fz)else w2.heap[g]?:=λg=>by
  rw[hw3,Array.getElem?_setIfInBounds];by_cases e:b=g
  .rw[Ï e,Ï e.symm,Ï Z]
  rw[É e,É (λk=>e k.symm)]
 have hsz:w3.heap.size=w2.heap.size:=by rw[hw3]; simp
 have h3:Ec base v l w3:=h w3 Z λk hk1 hB=>by
  rw[hg];split
  .rename_i e; subst e; exact hb.symm
  rename_i e; exact hk k hk1 ⟨hB,e⟩
 refine abb he h3 ⟨Z,λg cur e hne hgc=>?_⟩;rw[hg]at hgc |-;split at hgc
 .cases hgc; exact absurd I hne
 rename_i e; rw[É e]
abbrev ale{base:Nat}{w:Á}{a:Option Ĥ}{q:ah}(h:gB base (.s a 1 c) [q] w):∃g,a=some ⟨g,0,none⟩∧base<=g∧g<w.heap.size∧w.rangeAt g 0 q.cells:=by
 have h1:=(ü h).1;obtain⟨b,o,c,hv,hb,hr⟩:=Vp.jR h1.1 (λ_=>I) 0 (by show 0<1; decide);rcases h1.2 with h0 | ⟨g,cap,cur,hg,h2,-⟩
 .exact absurd h0 (by show ¬1=0; decide)
 simp only[Ĉ]at hv hg;have e:=hg.1.symm.trans hv.1;simp only[Ò,Ÿ]at e;obtain⟨rfl,rfl,-⟩:=e;exact⟨g,hg.1,h2,hb,hr⟩
abbrev JB{w:Á}(h:dY K w e.node)(hl:e.node.lim) :
  Ä prog 36 #[e.v] w λr w'=>∃m:ah,r = .R (aP.v {e with node:=m})∧m.cp w.heap.size w'∧m.strip=e.node.strip∧Ext w w':=by
 skip;refine Ë func36 ntmps36 λS=>Í S λu b2 E3 hb4 S=>Í S λu b5 E6 hb7 S=>Å S 2 [] [.M 1 4] λS=>Í S (λu b9 NQ OJ S=>?_);have q0:=(S.bx 0).1;have q1:=(S.bx 1).1;have q2:=(S.bx 2).1;have hEq:=S.E.size;have hold:=λp hp=>(S.own p hp).1.1;have hsk:bM K u (⟨0,0,.none,some ⟨b9,0,none⟩,1,[e.node]⟩:aA):=⟨(show I64 0 by decide),(show I64 0 by decide),CV (f:=ah.cells) [e.node] (λ_=>I) (by simpa using S.pV 0) (by show 1<=maxLen; decide),λn hn=>by rw[Ā.1 hn]; exact h.below S.E⟩;refine î S (rW hsk (λn hn=>by rw[Ā.1 hn]; exact hl) (by show 1<=100000; decide)) ?_;rintro e u ⟨m,rfl,ho,hst,-,-,-,uM⟩;obtain⟨mw,mh,mb,ma,mc,ml⟩:=m;obtain⟨n,rfl,hns⟩:=List.map_eq_singleton_iff.1 hst;have hmn:=ē ho.cp λ_ h=>h.2 n ë;obtain⟨g,rfl,hgb,aqD,hgr⟩:=ale ho.cp;refine⟨_,I,uM,λS=>?_⟩;have S:=S.view aqD hgr (λp hp=>by have:=hold p hp; omega);refine Å S 4 [] [.M 3 0] λS=>à S 2 I (λu C13 S=>?_);have ag2:=(Sx.On.ch hmn C13 Z);refine Å S 1 [] [.M 2 0] λS=>à S 1 I (λu Ź S=>?_);have VG:=(Sx.On.ch ag2 Ź Z);refine ă S 1 I (v:=aP.v {e with node:=n}) (λS=>?_);exact⟨_,I,CP VG hEq,hns,S.E⟩
abbrev HD.alf{w:Á}{s m:aA}(h:bM K w s)(hl:∀n∈s.ns,n.lim)(hv:s.key.valid=true)(hst:m.ns.map ah.strip=s.ns.map ah.strip)(e1:m.w=s.w)(e2:m.h=s.h)(e3:m.bg=s.bg){a:Option Ĥ}:HD.Ok K ⟨a,1,[m],none,0,[],0⟩∧HD.key ⟨a,1,[m],none,0,[],0⟩=⟨[s.key],[],0⟩:=by
 have ek:m.key=s.key:=by unfold aA.key; rw[e1,e2,e3]; exact Ñ _ (AY hst)
 have e4:HD.key ⟨a,1,[m],none,0,[],0⟩=⟨[s.key],[],0⟩:=by unfold HD.key; rw[<-ek]; rfl
 refine⟨⟨?_,λt ht n hn=>?_,λe he=>(by cases he)⟩,e4⟩
 .rw[e4]; exact⟨Hs.new hv,Ó _,Õ _⟩
 rw[Ā.1 ht]at hn;exact⟨fits_all hst (λn hn=>(h.2.2.2 n hn).2) n hn,AZ hst hl n hn⟩
abbrev HD.ahT{w u:Á}{s m:aA}(h:bM K w s)(hl:∀n∈s.ns,n.lim)(hst:m.ns.map ah.strip=s.ns.map ah.strip)(e1:m.w=s.w)(e2:m.h=s.h)(e3:m.bg=s.bg){c base b g:Nat}(hm:Sx.On (λi=>base<=i∧i≠b) (Ec base m.s m.ns) u)(hx:Bx u g m.cells.toArray)(hc:c<=base)(hg:c<=g)(hgb:g≠b):HD.mem K c b ⟨some ⟨g,0,none⟩,1,[m],none,0,[],0⟩ u:=by
 refine ē (Ă (hm.mono λi hi=>⟨ï hc hi.1,hi.2⟩) ((anQ hx).mono λi hi=>by subst hi; exact⟨hg,hgb⟩)) λW ⟨q1,q2⟩=>⟨⟨CV (f:=aA.cells) [m] (λ_=>I) (by simpa using q2) (by show 1<=maxLen; decide),λt ht=>?_⟩,iR _ _ _,λe he=>(by cases he)⟩;rw[Ā.1 ht];exact⟨e1▸h.1,e2▸h.2.1,q1.1.1,λn hn=>⟨(q1.2 n hn).1,fits_all hst (λn hn=>(h.2.2.2 n hn).2) n hn⟩⟩
abbrev TG{w:Á}{s:aA}(h:bM K w s)(hg:bZ w)(hlim:∀n∈s.ns,n.lim) :
  Ä prog 25 #[s.v] w λe w'=>(s.key.valid=false∧e = .R (.tuple #[.pointer none,.i 18])∧Ext w w')∨(s.key.valid=true∧∃(b:Nat) (H:HD),e = .R (.tuple #[.q b 0,.i 0])∧w.heap.size<=b∧Bx w' b H.cells.toArray∧H.mem K w.heap.size b w'∧(H.Ok K∧H.key=⟨[s.key],[],0⟩)∧Ext w w'):=by
 skip;refine Ë func25 ntmps25 λS=>Í S λu b2 E3 hb4 S=>Å S 3 [] [.M 0 0] λS=>Þ S (xA (h.below S.E) (bZ.below hg S.E)) λu E7 S=>È S (!s.key.valid) (λhc8 S=>?_) (λhc8 S=>?_)
 .refine Gt S ((.pointer none)) (.i 18) (λS=>?_);exact .inl ⟨by simpa using hc8,I,S.E⟩
 have hEq:=S.E.size;have hv:s.key.valid=true:=by simpa using hc8
 refine Å S 1 [] [.M 0 0] λS=>î S (rW (h.below S.E) hlim (by have:=Di hv; omega)) ?_;rintro e u ⟨m,rfl,ho,hst,hw1,hh1,hb1,BH⟩;refine⟨_,I,BH,λS=>?_⟩;have zq:=(BH).size;refine Í S λu b12 zu Tj S=>Í S (λu b15 LU FY S=>?_);have e9:=Tj;have e12:=FY;have z0:=(zu).size;have z9:=(LU).size;refine Gt S (.q b15 0) (.i 0) (λS=>?_);exact .inr ⟨hv,b15,⟨some ⟨b12,0,none⟩,1,[m],none,0,[],0⟩,I,Z,S.pV 0,HD.ahT h hlim hst hw1 hh1 hb1 (Sx.On.fresh ho.cp (Ã zu LU) Z) (S.pV 1) hEq Z (λe=>by have h:=S.apart; rw[Ē,ŵ]at h; exact h.1 (by simp[e])),HD.alf h hlim hv hst hw1 hh1 hb1,S.E⟩
def ApC(P:bH->Prop):Prop:=∀{K:Nat} {w:Á} {s:aA} {e:aP},bM K w s->bZ w->jd K w e->(∀n∈s.ns,n.lim)->e.node.lim->P e.key ->
 Ä prog 62 #[s.v,e.v] w λr w'=>∃(t:aA) (code:Int),r = .R (.tuple #[t.v,.i code])∧Xi w.heap.size K s e code t w'∧Ext w w'
abbrev Zg{B m:Nat}{e:á}{a:Option Ĥ}{L:List α}{xs:List À}{w:Á}(hf:∀x,(f x).length=k)(ho:w.ownsRow B e k (.s a m c) m xs)(hm:m=L.length)(hx:xs=L.flatMap f):Sx.dD B (λW=>aI k f W (.s a L.length c) L) w:=by
 subst hm; exact lu hf ho I hx
abbrev aeY{i:Nat}{w:Á}{a:Option Ĥ}{L:List α}(h:aI k f w (.s a L.length c) L)(hi:i<=L.length)(hf:∀x,(f x).length=k)(h1:∀x,(f x).all (·.oneCell')=true):dN w k (.s (sO a 0 i k) i i) i ((L.take i).flatMap f):=by
 have:=kD (LK h hi (ï hi (jo h))) hf h1;rwa [Ľ,Ϭ hi]at this
abbrev aeZ{P:bH->Prop}(hA:ApC P){w0 w:Á}{H:HD}(hP:P e.key)(hE:Ext w0 w)(hx:Bx w b H.cells.toArray)(hb:w0.heap.size<=b)(hcb:c<=b)(hok:H.Ok K)(hm:H.mem K c b w)(hk:H.k≠256)(hg:bZ w)(he:jd K w e)(hel:e.node.lim) :
  Ä prog 34 #[.q b 0,e.v] w λr w'=>∃(H':HD) (code:Int),r = .R (.i code)∧(H'.key,code)=H.key.put e.key∧H'.Ok K∧H'.mem K c b w'∧Ext w0 w'∧Ch b w w'∧Bx w' b H'.cells.toArray:=by
 obtain⟨sn,hxk⟩:∃z,H.ss[H.k]'hok.lt=z:=⟨_,I⟩;have hxm:sn∈H.ss:=hxk▸þ _;have hle:=hok.le;have hlen:=hok.len;have hec:=jo (ü hm).2.1;have hsc:=jo (ü hm).1.1;refine YP func34 ntmps34 hE hx hb λS=>Í S (λu b2 E3 hb4 S=>?_);have hold:=λp hp=>(S.own p hp).1.1;have lg:=S.E.size;have hbu:=(S.bx 1).1;have χ:Ext w u:=E3;have hws:=χ.size;refine Ů S f34 1 λS iz=>Sx.delay 6 4 8 ?_;refine qY S 8 [(11,λv w1=>∃t2:aA,v = .tuple #[t2.v,.i (fD sn.key e.key).2]∧t2.key=(fD sn.key e.key).1∧I64 t2.w∧I64 t2.h∧gB u.heap.size t2.s t2.ns w1∧∀n∈t2.ns,n.xE K),(7,λv w1=>∃t2:aA,v = .tuple #[t2.v,.i (fD sn.key e.key).2]∧t2.key=(fD sn.key e.key).1∧I64 t2.w∧I64 t2.h∧gB u.heap.size t2.s t2.ns w1∧∀n∈t2.ns,n.xE K),(12,λv w1=>∃t2:aA,v=t2.v∧t2.key=(fD sn.key e.key).1∧I64 t2.w∧I64 t2.h∧gB u.heap.size t2.s t2.ns w1∧∀n∈t2.ns,n.xE K),(13,λv w1=>v = .i (fD sn.key e.key).2),(5,λv w1=>∃b,v = .q b 0∧u.heap.size<=b∧w1.heap[b]?=some (.cells (List.toArray [.i 0,.i 0,.u 0,.u 0,.u 0,.u 0,.sn]) 65 (0,0))∧Bx w1 b (List.toArray [.i 0,.i 0,.u 0,.u 0,.u 0,.u 0,.sn]))] (λr=>[.M 0 0,.hand 7 [],.hand 12 [],.hand 13 [],.hand 5 []]) (λx=>[sn.v,x 11,x 7,x 12,x 13,x 5]) (λx=>[(_,_,true,sn.v,9),(_,_,true,x 11,11)]) [[],[]] (λx=>[(5,x 5),(12,x 12),(13,x 13)]) ⟨λ_ _ _ k h=>by obtain⟨t2,e,h1,h2,h3,h4,h5⟩:=h; exact⟨t2,e,h1,h2,h3,ò h4 k,h5⟩,λ_ _ _ k h=>by obtain⟨t2,e,h1,h2,h3,h4,h5⟩:=h; exact⟨t2,e,h1,h2,h3,ò h4 k,h5⟩,λ_ _ _ k h=>by obtain⟨t2,e,h1,h2,h3,h4,h5⟩:=h; exact⟨t2,e,h1,h2,h3,ò h4 k,h5⟩,λ_ _ _ _ h=>h,λ_ w1 w2 k h=>by obtain⟨b,e,h1,h2,h3⟩:=h; exact⟨b,e,h1,(k.block b (Eo h2).1).trans h2,h3.ext k⟩,G⟩ (λx=>⟨by intro u hC g F; exact(Ti (ev := .s H.ea H.es.length H.ec) (r:=[.b true]) ((S.pV 1).ext hC) (ü ((ò hm (Ã E3 hC)))).1.1 hok.lt hxk).mono λe w2 h=>⟨_,h.1,I,h.2⟩,by intro u hC g F; exact(hA (K:=K) (s:=sn) (e:=e) ((ü ((ò hm (Ã E3 hC)))).1.2 sn hxm) (bZ.below hg (Ã χ hC)) (he.below (Ã χ hC)) (λn hn=>(hok.s sn hxm n hn).2) hel hP).mono λe w2 h=>by obtain⟨t2,aua,rfl,abe,hb⟩:=h; exact⟨_,I,⟨t2,by rw[<-abe.1],by rw[<-abe.1],abe.2.2.1.1,abe.2.2.1.2.1,gB.le abe.2.1 hC.size,abe.2.2.2⟩,hb⟩,G⟩) (λac u x E6 F S=>?_) (hk:=λr=>⟨G,G,G,G,G⟩) (hl:=[(4,[11]),(5,[7]),(6,[7]),(7,[])]) (hH:=λx r=>⟨λo ho ρ u hs hE hρ hV F=>by obtain⟨F11,-⟩:=F; exact jf ho hs [(11,x 11)] (Ŀ (hρ 11 O I)) (x 11) (Ĵ ho I I ô F11),λo ho ρ u hs hE hρ hV F=>by obtain⟨F7,-⟩:=F; obtain⟨t2,e,h2⟩:=F7; exact jf ho hs [(7,.tuple #[t2.v,.i _])] (Ŀ ((hρ 7 O I).trans e)) (t2.v) (Ĵ ho I I ô ⟨t2,I,h2⟩),λo ho ρ u hs hE hρ hV F=>by obtain⟨F7,-⟩:=F; obtain⟨t2,e,h2⟩:=F7; exact jf ho hs [(7,.tuple #[t2.v,.i _])] (Ŀ ((hρ 7 O I).trans e)) (.i _) (Ĵ ho I I ô I),λo ho ρ u hs hE hρ hV F=>by exact Sx.abd ho hs [] (λ_ _ h=>by cases h) [.i 0,.i 0,.u 0,.u 0,.u 0,.u 0,.sn] 65 (λb w' h1 h2 h3 h4=>Ĵ ho I I h4 ⟨b,I,ï hE.size h1,h2,h3⟩),G⟩);refine zdb S (λS=>?_);obtain⟨F11,F7,KC,U0,F5,-⟩:=F;clear F11;clear F7;obtain⟨t,e12,htk,htw,hth,htc,htf⟩:=KC;rw[e12]at S;try rw[e12]
 rw[U0]at S;try rw[U0]
 obtain⟨v5,F5,hb5,hv5,hx5⟩:=F5;rw[F5]at S;try rw[F5]
 have S:=S.qw;have S:=S.adopt (A:=[.i 0,.i 0,.u 0,.u 0,.u 0,.u 0,.sn]) hx5 Z (λp hp=>by have:=hold p hp; omega) (λm hm=>by cases hm);have htm:=anS (e0:=65) O htc hv5;refine à S 0 I (λu C7 S=>?_);have E8:=Ö (Ã E3 E6) C7 (by have:=E3.size; omega);have E9:=Ö (Ã E3 E6) C7 (by have:=E3.size; omega);have aqE:=(Sx.On.ch htm C7 Z);refine È S (((fD sn.key e.key).2) != 0) (λhc13 S=>?_) (λhc13 S=>?_)
 .refine Æ S (.i ((fD sn.key e.key).2)) (λS=>?_);exact⟨H,_,I,HK.aeU (t:=(fD sn.key e.key).1) (by rw[K09 hok.lt,hxk]) (by simpa using hc13),hok,((ò hm E8)),S.E,((Ch.trans (Ch.refl b w) (Ch.bY E9))),S.pV 2⟩
 have aqF:Ext w u:=E8;have au8:=(S.bx 2).1;have hzc:(fD sn.key e.key).2=0:=by simpa using hc13
 have hw4:=(((Ch.trans (Ch.refl b w) (Ch.bY E9)))).size;refine Ů S f34 4 (λS iz=>?_);refine ug S 20 [(32,λv w1=>∃m:ah,v=aP.v {e with node:=m}∧m.cp u.heap.size w1∧m.strip=e.node.strip),(33,λv w1=>∃(m:ah) (b:Nat),v = .s (some ⟨b,0,none⟩) 1 1∧Bx w1 b (aP.cells {e with node:=m}).toArray∧m.cp u.heap.size w1∧m.strip=e.node.strip),(34,λv w1=>∃m:ah,w1.ownsRow u.heap.size 42 55 v (H.k+1) ((H.es.take H.k).flatMap aP.cells++aP.cells {e with node:=m})∧m.cp u.heap.size w1∧m.strip=e.node.strip)] (λr=>[.M 2 1,.M 2 2,.M 2 2,.slc 0 H.k H.k H.ec,.M 1 0,.hand 33 [],.hand 34 [(30,.s (sO H.ea 0 H.k 55) H.k H.k)]]) (λx=>[x 32,x 33,x 34]) (λx=>[(_,_,true,x 32,32)]) [[]] (λx=>[(34,x 34),(36,.q b 1)]) ⟨λ_ _ _ k h=>by obtain⟨m,e,h1,h2⟩:=h; exact⟨m,e,ò h1 k,h2⟩,λ_ _ _ k h=>by obtain⟨m,b,e,h1,h2,h3⟩:=h; exact⟨m,b,e,h1.ext k,ò h2 k,h3⟩,λ_ _ _ k h=>by obtain⟨m,h1,h2,h3⟩:=h; exact⟨m,Sx.dO h1 k,ò h2 k,h3⟩,G⟩ (λx=>⟨by intro u hC g F; exact(JB (he.2.2.2.2.below (Ã aqF hC)) hel).mono λe w2 h=>by obtain⟨m,rfl,hmc,hms,hb⟩:=h; exact⟨_,I,⟨m,I,CP hmc hC.size,hms⟩,hb⟩,G⟩) (λac u x LU F S=>?_) (hk:=λr=>⟨⟨Õ _,Ó _,Z⟩,G,G,G⟩) (hl:=[(16,[32]),(17,[33])]) (hH:=λx r=>⟨λo ho ρ u hs hE hρ hV F=>by obtain⟨F32,-⟩:=F; obtain⟨m,e1,h1,h2⟩:=F32; exact wR ho hs [(32,aP.v {e with node:=m})] (Ŀ ((hρ 32 O I).trans e1)) (aP.cells {e with node:=m}) (some 1) (λv w' hn hE2=>Ĵ ho I I hE2 (by obtain⟨b,e2,-,h3⟩:=hn; exact⟨m,b,e2,h3,ò h1 hE2,h2⟩)),λo ho ρ u hs hE hρ hV F=>by obtain⟨F33,-⟩:=F; obtain⟨m,b,e1,h1,h2,h3⟩:=F33; exact wU ho aqC (hV (30,_) ë) ((hρ 33 O I).trans e1) (aeY (f:=aP.cells) (ü (ò ((ò hm E8)) hE)).2.1 hle.1 (λ_=>I) (λ_=>I)) (xH (m:=1) (k:=55) (A:=aP.cells {e with node:=m}) h1) O (by show H.k+1<=9223372036854775807; omega) Z (λv' w' h hE2=>Ĵ ho I I hE2 ⟨m,Sx.ownsRow_base h hE.size,ò h2 hE2,h3⟩),G⟩);refine Sr S (λS=>?_);obtain⟨F32,F33,F34,-⟩:=F;clear F32;clear F33;obtain⟨m,ho4,hmc,hms⟩:=F34;obtain⟨a4,c4,e4⟩:=Sx.jk ho4;rw[e4]at S ho4;try rw[e4]
 have hl4:(H.es.take H.k++[({e with node:=m}:aP)]).length=H.k+1:=by rw[ì,Ľ,azl]; omega
 have hr4:=Zg (f:=aP.cells) (L:=H.es.take H.k++[({e with node:=m}:aP)]) (λ_=>I) ho4 hl4.symm Y;refine č S 2 I (λu FK S=>?_);have Am:=(Sx.On.ch ((ò hm (Ã E8 LU))) FK Z);have pI:=(cO ((Ch.trans (Ch.refl b w) (Ch.bY (Ã E9 LU)))) FK);have FN:=(Sx.On.ch ((ò aqE LU)) FK Z);have wu:=(Sx.On.ch hr4 FK Z);have qQ:=(Sx.On.ch hmc FK Z);have au9:=(S.bx 2).1;have hw5:=(pI).size;have lg:=S.E.size;have hold:=λp hp=>(S.own p hp).1.1;have lg:=S.E.size;refine Ů S f34 5 (λS iz=>?_);refine ug S 21 [(54,iK u.heap.size t.cells (some 1)),(55,λv w1=>w1.ownsRow u.heap.size 65 7 v (H.k+1+1) ((H.ss.take (H.k+1)).flatMap aA.cells++t.cells))] (λr=>[.M 2 0,.M 2 2,.re 46 (.i (IntKind.i64.wrap ((H.k:Int)+1))) (.i (H.k+1:Nat)),.M 2 2,.re 51 (.i (IntKind.i64.wrap ((H.k:Int)+1))) (.i (H.k+1:Nat)),.slc 0 (H.k+1) (H.k+1) H.sc,.M 0 0,.new 54 t.cells (some 1) r,.hand 55 [(52,.s (sO H.sa 0 (H.k+1) 7) (H.k+1) (H.k+1))]]) (λx=>[x 54,x 55]) (λx=>[]) [] (λx=>[(55,x 55),(57,.q b 0)]) ⟨iK.mono,λ_ _ _ k h=>Sx.dO h k,G⟩ (λx=>G) (λac u x EK F S=>?_) (hN:=λr=>⟨⟨I,I⟩,G⟩) (hk:=λr=>⟨ą Z,ą Z,⟨Õ _,Ó _,Z⟩,G,G,G⟩) (hl:=[(18,[54])]) (hH:=λx r=>⟨λo ho ρ u hs hE hρ hV F=>by obtain⟨F54,-⟩:=F; obtain⟨b,e1,-,h1⟩:=F54; exact wU ho anR (hV (52,_) ë) ((hρ 54 O I).trans e1) (aeY (f:=aA.cells) (ü (ò Am hE)).1.1 hok.lt (λ_=>I) (λ_=>I)) (xH (m:=1) (k:=7) (A:=t.cells) h1) O (by show H.k+1+1<=9223372036854775807; omega) Z (λv' w' h hE2=>Ĵ ho I I hE2 (Sx.ownsRow_base h hE.size)),G⟩);refine Sr S (λS=>?_);obtain⟨F54,Xm,-⟩:=F;obtain⟨b25,F54,Oj,X26⟩:=F54;have S:=S.adopt (A:=t.cells) X26 Z (λp hp=>by have:=hold p hp; omega) (λm hm=>by cases hm);obtain⟨a5,c5,e5⟩:=Sx.jk Xm;rw[e5]at S Xm;try rw[e5]
 have hl5:(H.ss.take (H.k+1)++[t]).length=H.k+1+1:=by rw[ì,Ľ,azl]; omega
 have hr5:=Zg (f:=aA.cells) (L:=H.ss.take (H.k+1)++[t]) (λ_=>I) Xm hl5.symm Y;refine č S 3 I (λu Xk S=>?_);have wG:=(Sx.On.ch ((ò Am EK)) Xk Z);have Wi:=(cO ((Ch.trans pI (Ch.bY EK))) Xk);have Au:=(Sx.On.ch ((ò FN EK)) Xk Z);have BP:=(Sx.On.ch ((ò wu EK)) Xk Z);have zf:=(Sx.On.ch ((ò qQ EK)) Xk Z);have aac:=(Sx.On.ch hr5 Xk Z);refine Å S 7 [] [.M 3 2,.re 62 (.i (IntKind.i64.wrap ((H.k:Int)+1))) (.i (H.k+1:Nat))] (hk:=⟨ą Z,G⟩) λS=>č S 3 I (λu Ph S=>?_);have S:=S.fl;have Dk:=(Sx.On.ch wG Ph Z);have RV:=(cO Wi Ph);have KU:=(Sx.On.ch Au Ph Z);have Ea:=(Sx.On.ch BP Ph Z);have IV:=(Sx.On.ch zf Ph Z);have KW:=(Sx.On.ch aac Ph Z);obtain⟨p1,p2⟩:=hok.put hk (t:=t) (d:=({e with node:=m}:aP)) (e:=e.key) (by rw[hxk]; exact Prod.ext htk hzc.symm) (by show bH.mk _ _ _ _ m.key _=_; rw[AX hms]; rfl) htf (vG ⟨he.2.2.2.2.2,hel⟩ hms) a5 a4 c5 c4;refine Æ S (.i 0) (λS=>?_);exact⟨_,0,I,p2,p1,HD.ahR Dk (ſ KW λi hi=>⟨Z,Z⟩) (ē (ſ KU λi hi=>⟨Z,Z⟩) λW h=>⟨htw,hth,h.1.1,λn hn=>⟨(h.2 n hn).1,(htf n hn).1⟩⟩) (ſ Ea λi hi=>⟨Z,Z⟩) (ē (ſ IV λi hi=>⟨Z,Z⟩) λW h=>⟨he.1,he.2.1,he.2.2.1,he.2.2.2.1,h.1,(vG ⟨he.2.2.2.2.2,hel⟩ hms).1⟩),S.E,RV,(by show Bx _ _ (List.toArray [.s a5 (H.ss.take (H.k+1)++[t]).length c5,.s a4 (H.es.take H.k++[({e with node:=m}:aP)]).length c4,.i (H.k+1:Nat),.b true]); rw[hl5,hl4]; exact S.pV 3)⟩
abbrev vI{P:bH->Prop}(hA:ApC P){w0 w:Á}{H:HD}(hP:P e.key)(hE:Ext w0 w)(hx:Bx w b H.cells.toArray)(hb:w0.heap.size<=b)(hcb:c<=b)(hok:H.Ok K)(hm:H.mem K c b w)(hg:bZ w)(he:jd K w e)(hel:e.node.lim) :
  Ä prog 13 #[.q b 0,e.v] w λr w'=>∃(H':HD) (code:Int),r = .R (.i code)∧(H'.key,code)=H.key.app e.key∧H'.Ok K∧H'.mem K c b w'∧Ext w0 w'∧Ch b w w'∧Bx w' b H'.cells.toArray:=by
 skip;refine YP func13 ntmps13 hE hx hb λS=>Í S λu b2 E3 hb4 S=>jc S (qH (S.bx 1)) λS=>ú S λS=>Å S 6 [] [.M 1 2] λS=>È S (((H.k:Int))==256) (λzB S=>?_) (λzB S=>?_)
 .refine Æ S (.i 5) (λS=>?_);exact⟨H,5,I,by unfold HK.app; rw[Ï (show H.key.k=256 from by have:=zB; simp at this; exact(by omega:H.k=256))],hok,((ò hm E3)),S.E,((Ch.trans (Ch.refl b w) (Ch.bY E3))),S.pV 1⟩
 refine Ą S 4 [.M 0 0] [] [(15,.q b 0),(16,e.v)] trivial (λu uM S=>?_);have χ:Ext w u:=(Ã E3 uM);have hk:H.k≠256:=by have:=zB; simp at this; omega
 have hch:=((Ch.trans (Ch.refl b w) (Ch.bY (Ã E3 uM))));refine Ď S 1 I (aeZ hA hP S.E (S.bx 1) hb hcb hok ((ò hm (Ã E3 uM))) hk (bZ.below hg χ) (he.below χ) hel) ?_;rintro e u ⟨H1,code,rfl,hkk,hok1,hm1,hE1,ű,hX1⟩;refine⟨_,_,I,hE1,ű,hX1,λS=>?_⟩;refine Æ S (.i code) (λS=>?_);exact⟨H1,code,I,by unfold HK.app; rw[É (show ¬H.key.k=256 from hk)]; exact hkk,hok1,hm1,S.E,Ch.trans hch ű,S.pV 1⟩
abbrev Xn{w0 w:Á}{H:HD}(hE:Ext w0 w)(hx:Bx w b H.cells.toArray)(hb:w0.heap.size<=b)(hcb:c<=b)(hok:H.Ok K)(hm:H.mem K c b w) :
  Ä prog 14 #[.q b 0] w λr w'=>∃(H':HD) (code:Int),r = .R (.i code)∧(H'.key,code)=H.key.undo∧H'.Ok K∧H'.mem K c b w'∧Ext w0 w'∧Ch b w w'∧Bx w' b H'.cells.toArray:=
 (Ej hE hx hb (by have:=hok.le; omega)).mono λe w' h=>by
  rcases h with ⟨h0,rfl,h1,h2,h3⟩ | ⟨k',hk',rfl,h1,h2,h3⟩
  .exact⟨H,20,I,by unfold HK.undo; rw[Ï (show H.key.k=0 from h0)],hok,K07 hm h2,h1,h2,h3⟩
  .have e1:(HD.key ⟨H.sa,H.sc,H.ss,H.ea,H.ec,H.es,k'⟩,(0:Int))=H.key.undo:=by
    unfold HK.undo
    rw[É (show ¬H.key.k=0 from by show ¬H.k=0; omega)]
    unfold HD.key
    simp only[hk',Nat.add_sub_cancel]
   have e2:=hok.k.undo
   rw[<-e1]at e2
   exact⟨⟨H.sa,H.sc,H.ss,H.ea,H.ec,H.es,k'⟩,0,I,e1,⟨e2,hok.s,hok.e⟩,K07 hm h2,h1,h2,h3⟩
abbrev Xo{w0 w:Á}{H:HD}(hE:Ext w0 w)(hx:Bx w b H.cells.toArray)(hb:w0.heap.size<=b)(hcb:c<=b)(hok:H.Ok K)(hm:H.mem K c b w) :
  Ä prog 15 #[.q b 0] w λr w'=>∃(H':HD) (code:Int),r = .R (.i code)∧(H'.key,code)=H.key.redo∧H'.Ok K∧H'.mem K c b w'∧Ext w0 w'∧Ch b w w'∧Bx w' b H'.cells.toArray:=
 (MS hE hx hb (by have:=hok.le; omega)).mono λe w' h=>by
  have hl:H.key.es.length=H.es.length:=Ģ ..
  rcases h with ⟨h0,rfl,h1,h2,h3⟩ | ⟨h0,rfl,h1,h2,h3⟩
  .exact⟨H,20,I,by unfold HK.redo; rw[Ï (show H.key.k=H.key.es.length from by rw[hl]; exact h0)],hok,K07 hm h2,h1,h2,h3⟩
  .have e1:(HD.key ⟨H.sa,H.sc,H.ss,H.ea,H.ec,H.es,H.k+1⟩,(0:Int))=H.key.redo:=by
    unfold HK.redo
    rw[É (show ¬H.key.k=H.key.es.length from by rw[hl]; exact h0)]; rfl
   have e2:=hok.k.redo
   rw[<-e1]at e2
   exact⟨⟨H.sa,H.sc,H.ss,H.ea,H.ec,H.es,H.k+1⟩,0,I,e1,⟨e2,hok.s,hok.e⟩,K07 hm h2,h1,h2,h3⟩
abbrev GI{w:Á}{H:HD}(hx:Bx w b H.cells.toArray)(hok:H.Ok K)(hm:H.mem K c b w) :
  Ä prog 17 #[.q b 0] w λr w'=>∃m:aA,r = .R m.v∧gB w.heap.size m.s m.ns w'∧bM K w' m∧m.key=H.key.now∧(∀n∈m.ns,n.xE K)∧Ext w w':=
 have hR:=ü hm
 have hq:=þ hok.lt
 (WZ hx hR.1.1 hok.lt (hR.1.2 _ hq) (λn hn=>(hok.s _ hq n hn).2) (by have:=Di (hok.val hq); omega)).mono λe w' ⟨m,h1,h2,h3,h4,h5,h6,h7⟩=>by
  have hf:∀n∈m.ns,n.xE K:=λn hn=>⟨fits_all h3 (λn hn=>(hok.s _ hq n hn).1) n hn,AZ h3 (λn hn=>(hok.s _ hq n hn).2) n hn⟩
  exact⟨m,h1,h2,⟨h4▸(hR.1.2 _ hq).1,h5▸(hR.1.2 _ hq).2.1,gB.ok h2 λn hn=>(hf n hn).1⟩,by rw[K09 hok.lt]; unfold aA.key; rw[h4,h5,h6]; exact Ñ _ (AY h3),hf,h7⟩
end
section
open En
variable{K:Nat}
theorem Py{c:Nat}:∀{l:List bH},(∀e∈l,(eB e).length<=c)->(l.flatMap eB).length<=l.length*c
 | [],_=>Õ _
 | x::r,h=>by
  have h1:=h x ë
  have h2:=Py (l:=r) λe he=>h e (Ŋ _ he)
  rw[ł,ì,Ĺ,Nat.succ_mul]
  omega
def hP(s:aV)(k n:Nat)(l:List bH):List UInt8:=iy (gI.app (eP s))++(fE 10 k++(fE 10 n++l.flatMap eB))
variable{s:aV}{k j:Nat}{es:List bH}
abbrev ajj(s:aV)(k:Nat)(es:List bH):hB s k es=hP s k es.length es:=rfl
abbrev ae0(h1:(gI.app (eP s)).length<=60000000)(h2:∀e∈es,(eB e).length<=60000010)(h3:es.length<=256):(hB s k es).length<=20000000000:=by
 have a1:=Jj (gI.app (eP s));have a2:=mF 10 k;have a3:=mF 10 es.length;have a4:=Py h2;have a5:es.length*60000010<=256*60000010:=ő _ h3;unfold hB;simp only[ì];omega
abbrev ae1(h1:(gI.app (eP s)).length<=60000000):Y3 (hB s k es) (0:Nat) (hB s k es).length=(gI.app (eP s),(iy (gI.app (eP s))).length,0):=by
 have:=Y2 [] (fE 10 k++(fE 10 es.length++es.flatMap eB)) (gI.app (eP s)) (hB s k es).length Z (by unfold hB iy; simp only[ì]; omega);simp only[ĵ,Ϫ,Ĳ]at this;exact this
abbrev aqG(hk:k<=256):yO (hB s k es) ((iy (gI.app (eP s))).length:Nat)=(k,(iy (gI.app (eP s))).length+(fE 10 k).length,0):=
 Y1 (iy (gI.app (eP s))) (fE 10 es.length++es.flatMap eB) k Z
abbrev aqH(hk:es.length<=256):yO (hB s k es) ((iy (gI.app (eP s))).length+(fE 10 k).length:Nat)=(es.length,(hP s k es.length []).length,0):=by
 have:=Y1 (iy (gI.app (eP s))++fE 10 k) (es.flatMap eB) es.length Z;rw[ĭ,ì]at this;unfold hP hB;rw[this];simp only[ì,List.flatMap_nil,ņ,Ξ]
abbrev aqI{e:bH}(he:es[j]?=some e)(h2:(eB e).length<=60000010):Y3 (hB s k es) ((hP s k es.length (es.take j)).length:Nat) (hB s k es).length=(gI.app (lW e),(hP s k es.length (es.take (j+1))).length,0):=by
 obtain⟨hj,rfl⟩:=List.getElem?_eq_some_iff.1 he;have e0:es=es.take j++(es[j]::es.drop (j+1)):=by rw[azk,ň]
 have e1:hB s k es=hP s k es.length (es.take j)++(iy (gI.app (lW es[j]))++(es.drop (j+1)).flatMap eB):=by
  rw[ajj];conv=>lhs; rw[hP]
  rw[hP];simp only[ĭ];congr 3;conv=>lhs; rw[e0]
  rw[ŉ,ł]; rfl
 have h3:(gI.app (lW es[j])).length<=(eB es[j]).length:=by unfold eB iy; rw[ì]; omega
 have hl:((gI.app (lW es[j])).length:Int)<=((hB s k es).length:Int):=by
  rw[e1]; unfold iy; simp only[ì]; omega
 have:=Y2 (hP s k es.length (es.take j)) ((es.drop (j+1)).flatMap eB) (gI.app (lW es[j])) (hB s k es).length Z hl;rw[<-e1]at this;rw[this];have e4:(hP s k es.length (es.take (j+1))).length=(hP s k es.length (es.take j)).length+(iy (gI.app (lW es[j]))).length:=by
  rw[ı hj];unfold hP;simp only[ŉ,ł,List.flatMap_nil,ņ,ì];unfold eB;omega
 rw[e4]
abbrev HK.abf{ss:List aV}{es:List bH}(h:Hs ss es){j:Nat}{e:bH}(he:es[j]?=some e):HK.put ⟨ss.take (j+1),es.take j,j⟩ e=(⟨ss.take (j+2),es.take (j+1),j+1⟩,0):=by
 obtain⟨a,b,h1,h2,h3⟩:=h.step j e he;obtain⟨hj,rfl⟩:=List.getElem?_eq_some_iff.1 he;have hl:=h.len;have hn:HK.now ⟨ss.take (j+1),es.take j,j⟩=a:=by
  unfold HK.now;simp only;rw[List.getElem?_take_of_lt Z,h1]; rfl
 unfold HK.put;rw[hn,h3,Ï I];simp only[Ô,HK.mk.injEq,and_true];obtain⟨hb,rfl⟩:=List.getElem?_eq_some_iff.1 h2;refine⟨?_,?_⟩
 .rw[List.take_take,Nat.min_self,<-ı hb]
 rw[List.take_take,Nat.min_self,<-ı hj]
def HK.bytes(h:HK):List UInt8:=gI.app (hB ((h.ss[0]?).getD .zero) h.k h.es)
abbrev HD.bytes_eq{H:HD}{s:aA}(hs:H.ss[0]?=some s):gI.app (hP s.key H.k H.es.length (H.es.map aP.key))=H.key.bytes:=by
 unfold HK.bytes HD.key;simp only[List.getElem?_map,hs,Ę,Option.getD_some,ajj,Ģ]
abbrev Zh{n:Nat}{es:List aP}{x:aP}(hj:j<es.length)(hx:es[j]=x):hP s k n ((es.map aP.key).take (j+1))=hP s k n ((es.map aP.key).take j)++eB x.key:=by
 rw[ı (by simpa using hj),List.getElem_map,hx];unfold hP;simp only[ŉ,ł,List.flatMap_nil,ņ,ĭ]
end
section
open Go.RowKit En Go.Sx
variable{α:Type}{K:Nat}
abbrev Zi{n:Nat}(h:n<=1000000):Value.int .u64 (IntKind.u64.wrap (n:Int)) = .int .u64 (n:Int):=wrap_u64 Z
end
end Go.Proofs.Pv
section
namespace Go.Sx
open Go.Proofs Go.Proofs.Pv Go.RowKit Go.Rel Go.Sx
section
variable{P:Program}{B:Exit->Act->Á->Prop}{ops:Array Oper}{Q:Exit->Act->Á->Prop}{n:Nat}{w0 w:Á}{a:Act}{os:List Oper}{l:List (Nat×À)}{bl:List (Nat×List À)}{vs:List eU}{z:Zt}
variable{f:FuncId}{args:Array À}{R:Ending->Á->Prop}{b1 b2:Nat}{A1 A2:List À}
abbrev alg(S:St w0 a w n l bl vs)(k1 k2:Nat)(d:Option Nat)(hne:k1≠k2)(hk1:bl[k1]?=some (b1,A1))(hk2:bl[k2]?=some (b2,A2))(hc:Ä P f args w R)
  (next:∀e w',R e w'->∃v wm A1' A2',e = .R v∧(Ext w0 wm∧Ch b1 w wm∧Bx wm b1 (List.toArray A1'))∧(Ext w0 w'∧Ch b2 wm w'∧Bx w' b2 (List.toArray A2'))∧∀a',St w0 a' w' n (zo l d v) ((bl.set k1 (b1,A1')).set k2 (b2,A2')) vs->Ð P ops Q (os.drop 1) a' w')
  (hx:callOf P os l=some (f,args,d):=by kernel_rfl) (hd:uN n d=true:=by rfl):Ð P ops Q os a w:=by
 cases os with
 | nil=>cases hx
 | cons o os =>
  unfold callOf at hx;simp only at hx;split at hx
  .rename_i f' args' hg hav hev;simp only[Ò,Ô]at hx;obtain⟨rfl,rfl,rfl⟩:=hx;simp only[Ĕ]at hav;have hrun:(Ù a.eval o).run P w = .ok (.enter f' args') w:=kH (Std.act a) (gG (bU S.s) o) (p:=[]) I hav.1 (by simpa using hav.2) hev;unfold Ð;rw[Ï (by simp[Region.wanted,hg])];left;unfold Oper.wp;rw[hrun];simp only[Oper.upon];refine hc.mono λe w' hR=>?_;obtain⟨v,wm,A1',A2',rfl,⟨hE1,ű,hX1⟩,⟨hE2,hC2,hX2⟩,hn⟩:=next e w' hR;exact hn _ (((S.ch ű hk1 hX1 hE1).ch hC2 (by rw[List.getElem?_set_ne hne]; exact hk2) hX2 hE2).act (uf S.s hd v))
  cases hx
abbrev ae2(S:St w0 a w n l bl vs)(k:Nat){b:Nat}{A:List À}(d:Option Nat)(hk:bl[k]?=some (b,A))(hc:Ä P f args w R)
  (next:∀e w',R e w'->∃v A',e = .R v∧Ext w0 w'∧Ch b w w'∧Bx w' b (List.toArray A')∧∀a',St w0 a' w' n (zo l d v) (bl.set k (b,A')) vs->Ð P ops Q (os.drop 1) a' w')
  (hx:GK P ops os l=some (f,args,d):=by kernel_rfl) (hd:uN n d=true:=by rfl):Ð P ops Q os a w:=by
 cases os with
 | nil=>cases hx
 | cons o os =>
  unfold GK at hx;simp only at hx;split at hx
  .rename_i p f' args' hp hav hev;split at hx
   .rename_i hg;simp only[Ò,Ô]at hx;obtain⟨rfl,rfl,rfl⟩:=hx;simp only[Ĕ]at hav;have hrun:(Ù a.eval o).run P w = .ok (.enter f' args') w:=kH (Std.act a) (gG (bU S.s) o) (p:=[]) I hav.1 (by simpa using hav.2) hev;unfold Ð;rw[Ï ((sD (a:=a) hp (λx _ i y _ hl=>bU S.s i y hl)).2 hg)];left;unfold Oper.wp;rw[hrun];simp only[Oper.upon];refine hc.mono λe w' hR=>?_;obtain⟨v,A',rfl,hE,hC,hX,hn⟩:=next e w' hR;exact hn _ ((S.ch hC hk hX hE).act (uf S.s hd v))
   cases hx
  cases hx
abbrev GL(S:St w0 a w n z.l bl vs)(k1 k2:Nat)(hne:k1≠k2)(hk1:bl[k1]?=some (b1,A1))(hk2:bl[k2]?=some (b2,A2))(hc:Ä P f args w R)
  (next:∀e w',R e w'->∃v wm A1' A2',e = .R v∧(Ext w0 wm∧Ch b1 w wm∧Bx wm b1 (List.toArray A1'))∧(Ext w0 w'∧Ch b2 wm w'∧Bx w' b2 (List.toArray A2'))∧∀{a'},St w0 a' w' n (wI v (zN P n z)).l ((bl.set k1 (b1,A1')).set k2 (b2,A2')) vs->Gz P B (wI v (zN P n z)) a' w')
  (hx:callOf P (pz (zN P n z)) (zN P n z).l=some (f,args,lX (zN P n z)):=by kernel_rfl) (ho:(uw (zN P n z)&&uN n (lX (zN P n z)))=true:=by kernel_rfl):Gz P B z a w:=by
 simp only[æ]at ho;refine uy S λS=>zop ho.1 (alg S k1 k2 _ hne hk1 hk2 hc (λe w' hR=>?_) hx ho.2);obtain⟨v,wm,A1',A2',h1,h2,h4,h3⟩:=next e w' hR;exact⟨v,wm,A1',A2',h1,h2,h4,λa' S'=>Jd (m:=1) (l:=[]) ho.1 (h3 S')⟩
end
end Go.Sx
namespace Go.Proofs.Pv
open Go.RowKit En Go.Sx
variable{α:Type}{K:Nat}
variable{v:À}{j bi ba bf:Nat}{f:FuncId}{args:Array À}{m:List UInt8}{i:Int}
abbrev alh{f:α->List À}{k:Nat}{L:List α}{w:Á}(h:aI k f w v L):Sx.On (λi=>i<w.heap.size) (λW=>aI k f W v L) w:=λW hs hk=>by
 obtain⟨a,cap,e,hm,h⟩:=h;rcases h with h | ⟨b,o,rfl,hb,hl,hc⟩
 .exact⟨a,cap,e,hm,.inl h⟩
 exact⟨_,cap,e,hm,.inr ⟨b,o,I,ā hb hs,hl,λi hi j hj=>by rw[World.cell?_of_block (a:=⟨b,_,none⟩) (hk b hb hb)]; exact hc i hi j hj⟩⟩
abbrev abg{w:Á}{l:List UInt8}{most:Int}(h:Ä prog f args w (Ei w (Y3 l i most)))(hr:Y3 l i most=(m,j,0)):Ä prog f args w λe w'=>∃x,e = .R (.tuple #[x,.i j,.i 0])∧OwnB w.heap.size w' x m∧Ext w w':=by
 rw[hr]at h; exact h
abbrev abh{w:Á}{l:List UInt8}{m:Nat}(h:Ä prog f args w (RF w (anb (yO l i))))(hr:yO l i=(m,j,0)):Ä prog f args w (RF w (.tuple #[.int .u64 (m:Int),.i j,.i 0])):=by
 rw[hr]at h; exact h
abbrev ali{base:Nat}{w:Á}{l:List UInt8}(h:OwnB base w v l):Sx.dD base (λW=>mD W v l) w:=lu (f:=λn:UInt8=>[iO n]) (L:=l) (λ_=>I) h I (OL l).symm
abbrev Nc{w0 w:Á}{l:List UInt8}{i:Nat}(hE:Ext w0 w)(hxi:Bx w bi #[v])(hxa:Bx w ba #[.i i])(hxf:Bx w bf #[.b true])(ha:w0.heap.size<=ba)(hf:w0.heap.size<=bf)(hab:ba≠bf)(hia:bi≠ba)(hif:bi≠bf)(hv:bI w v l)(hl:l.length<=100000000000)(hr:Y3 l (i:Nat) l.length=(m,j,0)) :
  Ä prog 44 #[.q bi 0,.q ba 0,.q bf 0] w λe w'=>∃x wm,e = .R x∧mD w' x m∧(Ext w0 wm∧Ch ba w wm∧Bx wm ba #[.i j])∧(Ext w0 w'∧Ch bf wm w'∧Bx w' bf #[.b true]):=by
 obtain⟨a,cap,rfl,hmx,-⟩:=id hv;refine YP func44 ntmps44 hE hxa ha (λS=>?_);have S:=S.adopt (A:=[.b true]) hxf hf (λp hp=>by rcases ç.1 hp with rfl | hp; (exact hab); cases hp) (λm hm=>by cases hm);have S:=S.view hxi.1 (hxi.range 0 1 I) (λp hp=>by rcases ç.1 hp with rfl | hp; (exact hif.symm); rcases ç.1 hp with rfl | hp; (exact hia.symm); cases hp);have hba:=(S.bx 1).1;have hbf:=(S.bx 0).1;refine Å S 5 [] [.M 2 0,.M 1 0,.M 2 0] λS=>î S (abg (SQ _ l (i:Int) (l.length:Int) _ (hv.below ô) hl Z) hr) ?_;rintro e u ⟨x1,rfl,ho1,E3⟩;have hs1:=ali ho1;refine⟨_,I,E3,λS=>?_⟩;refine Å S 13 [19,20] [.M 0 0] λS=>č S 1 I (λu C6 S=>?_);have Fs5:=(cO ((Ch.trans (Ch.refl ba w) (Ch.bY E3))) C6);have Fs6:=(Sx.On.ch hs1 C6 Z);have hch:Ch ba w u:=Fs5;have WY:=S.E;have hXm:Bx u ba (List.toArray [.i j]):=S.pV 1;obtain⟨wm,hwm⟩:∃x,x=u:=⟨_,I⟩;rw[<-hwm]at hch WY hXm;refine č S 0 I (λu C7 S=>?_);have Fs7:=(Sx.On.ch Fs6 C7 Z);rw[<-hwm]at C7;refine Æ S x1 (λS=>?_);exact⟨_,wm,I,(ü (ſ Fs7 λi h=>h)),⟨WY,hch,hXm⟩,S.E,C7,S.pV 0⟩
abbrev TJ{w0 w:Á}{l:List UInt8}{i:Nat}(hE:Ext w0 w)(hxi:Bx w bi #[v])(hxa:Bx w ba #[.i i])(hxf:Bx w bf #[.b true])(ha:w0.heap.size<=ba)(hf:w0.heap.size<=bf)(hab:ba≠bf)(hia:bi≠ba)(hif:bi≠bf)(hv:bI w v l){m:Nat}(hr:yO l (i:Nat)=(m,j,0)) :
  Ä prog 46 #[.q bi 0,.q ba 0,.q bf 0] w λe w'=>∃wm,e = .R (.int .u64 (m:Int))∧(Ext w0 wm∧Ch ba w wm∧Bx wm ba #[.i j])∧(Ext w0 w'∧Ch bf wm w'∧Bx w' bf #[.b true]):=by
 obtain⟨a,cap,rfl,hmx,-⟩:=id hv;refine YP func46 ntmps46 hE hxa ha (λS=>?_);have S:=S.adopt (A:=[.b true]) hxf hf (λp hp=>by rcases ç.1 hp with rfl | hp; (exact hab); cases hp) (λm hm=>by cases hm);have S:=S.view hxi.1 (hxi.range 0 1 I) (λp hp=>by rcases ç.1 hp with rfl | hp; (exact hif.symm); rcases ç.1 hp with rfl | hp; (exact hia.symm); cases hp);refine Å S 3 [] [.M 2 0,.M 1 0] λS=>Þ S (abh (xJ _ l (i:Int) _ (hv.below ô)) hr) λu E3 S=>Å S 13 [17,18] [.M 0 0] λS=>č S 1 I (λu C6 S=>?_);have Fs5:=(cO ((Ch.trans (Ch.refl ba w) (Ch.bY E3))) C6);have hch:Ch ba w u:=Fs5;have WY:=S.E;have hXm:Bx u ba (List.toArray [.i j]):=S.pV 1;obtain⟨wm,hwm⟩:∃x,x=u:=⟨_,I⟩;rw[<-hwm]at hch WY hXm;refine č S 0 I (λu C7 S=>?_);rw[<-hwm]at C7;refine Æ S (.int .u64 (m:Int)) (λS=>?_);exact⟨wm,I,⟨WY,hch,hXm⟩,S.E,C7,S.pV 0⟩
