/- The scene of one group, by -/
import Derived.Test.YtodpgjjgaddkeaaGreatDoorPk21
set_option linter.unusedVariables false
set_option linter.unusedSimpArgs false
set_option maxRecDepth 100000
set_option maxHeartbeats 9999999
open Go renaming World->Á,Value->À,Calls->Ä
open Go.Proofs.Tryz
namespace Go.Proofs.Pv
section
structure Pg (n:aN):Prop where
 c:n.chk=0
 i:n.id=1
 k:n.kind=1
 d:n.depth=0
def uO(n:aN)(c:bQ):aV:=⟨2,1,c,[n]⟩
abbrev Pg.valid{n:aN}(h:Pg n)(c:bQ):(uO n c).valid=true:=by
 rw[aV.oV];refine⟨(by show(1:Int)<=2∧(2:Int)<=256∧(1:Int)<=1∧(1:Int)<=256; decide),(by show 1<=64; omega),?_,G⟩;exact xq.2 ⟨h.c,λκ VW=>(by cases VW),by rw[h.d]; exact Int.le_refl _⟩
def lH(c:bQ):bH:=⟨5,0,0,0,.zero,c⟩
abbrev abv{s:aV}(h:s.valid=true)(c:bQ):(⟨s.w,s.h,c,s.ns⟩:aV).valid=true:=by
 rw[aV.oV]at h |-;exact h
abbrev abw{s:aV}(h:s.valid=true)(c:bQ):fD s (lH c)=(⟨s.w,s.h,c,s.ns⟩,0):=
 aal h (by simp[bH.named,lH]) (by simp[jy,lH]) (abv h c)
abbrev Pg.rm9{n:aN}(h:Pg n)(c:bQ):fD (uO n c) (.remove 9)=(.zero,8):=by
 have hf:jD (uO n c).ns 9=none:=Iq.2 λκ VW=>by rw[Ā.1 VW,h.i]; decide
 unfold fD;rw[É (by rw[h.valid c]; decide),É (by simp[bH.named,bH.remove])];have:jy (uO n c).ns (.remove 9) = .error 8:=by
  unfold jy;rw[É O,Ï (show(bH.remove 9).kind=2 from rfl),show(bH.remove 9).id=9 from rfl,hf]
 rw[this]
end
section
open Go.RowKit En Go.Sx
variable{α:Type}{K:Nat}
def Dt:aN:=⟨1,1,0,qI,[],0,255,1,false,false,[],0,[],aY.bare.key,[],dA.bare.key,0⟩
def yc(w:Á)(m:aA):Prop:=bM 20 w m∧(∀n∈m.ns,n.lim)∧m.key=uO Dt .none∧Pg Dt
abbrev yc.below{w w':Á}{m:aA}(h:yc w m)(hE:Ext w w'):yc w' m:=⟨h.1.below hE,h.2⟩
abbrev ah3{w:Á}{t:aT}{b:Nat}(ht:TI w t)(hx:Bx w b (vK 1 t).cells.toArray):yc w ⟨2,1,.none,some ⟨b,0,none⟩,1,[vK 1 t]⟩:=by
 have hd:TQ w 1 1 (vK 1 t) := .inl ⟨I,t,ht,I⟩;have hk:(vK 1 t).key=Dt:=by unfold ah.key Dt vK; rw[ht.2.q JF]; rfl
 have hc:(vK 1 t).checkN=0:=by have:=hd.check; simpa using this
 refine⟨⟨(show I64 2 by decide),(show I64 1 by decide),CV (f:=ah.cells) [vK 1 t] (λ_=>I) (by simpa using hx) (by show 1<=maxLen; decide),λn hn=>by rw[Ā.1 hn]; exact hd.ok O O O⟩,λn hn=>?_,by unfold aA.key uO; rw[<-hk]; rfl,⟨by rw[<-hk,qm]; exact hc,I,I,I⟩⟩;rw[Ā.1 hn];exact⟨(ht.fit (Ó 1)).up O,Õ _,Õ _,Õ _,(λp hp=>by cases hp),Õ _,Õ _,(λp hp=>by cases hp),Õ _⟩
def EdS(k:bH):Prop:=k.kind=2∨k.kind=5
abbrev JI{f:FuncId}{args:Array À}{w:Á}{v v':À}(h:Ä prog f args w (RF w v))(hv:v=v'):Ä prog f args w (RF w v'):=hv▸h
abbrev afw{w:Á}{b a n:Nat}{H:HD}{h:HK}(hx:Bx w b H.cells.toArray)(hk:H.key=h)(ha:h.k=a)(hn:h.es.length=n) :
  Ä prog 9 #[.q b 0] w (RF w (.tuple #[.i a,.i n])):=by
 subst hk ha hn;exact JI (aeF (sv := .s H.sa H.ss.length H.sc) (ea:=H.ea) (ec:=H.ec) hx) (by simp[HD.key])
abbrev alB{w:Á}{m:aA}{v:À}(h:∃t:aA,v=t.v∧yc w t)(hm:bM 20 w m)(hk:m.key=uO Dt .none) :
  Ä prog 16 #[m.v,v] w (RF w (.b true)):=by
 obtain⟨t,rfl,ht⟩:=h;exact JI (Fe hm ht.1) (by rw[hk,ht.2.2.1]; simp)
abbrev afx(w:Á){k i:Int}{c:bQ}(hk:I64 k)(hi:I64 i)(hK:1<=K∧K<=10000):jd K w ⟨k,i,0,0,fM,c⟩:=⟨hk,hi,(show I64 0 by decide),(show I64 0 by decide),lT w hK.1 hK.2⟩
abbrev TY:fM.lim:=⟨(lT (K:=20) default O O).2.1.up O,Õ _,Õ _,Õ _,(λp hp=>by cases hp),Õ _,Õ _,(λp hp=>by cases hp),Õ _⟩
abbrev K14{h:HK}{e:bH}{t:aV}{c:Int}(hk:h.k≠256)(ha:fD h.now e=(t,c)):h.app e=if c=0 then (⟨h.ss.take (h.k+1)++[t],h.es.take h.k++[e],h.k+1⟩,0)else (h,c):=by
 unfold HK.app HK.put;rw[É hk,ha]
abbrev alC{n:aN}(h:Pg n)(c:bQ):HK.app ⟨[uO n .none],[],0⟩ (lH c)=(⟨[uO n .none,uO n c],[lH c],1⟩,0):=by
 rw[K14 (h:=⟨[uO n .none],[],0⟩) (t:=uO n c) (c:=0) (by show(0:Nat)≠256; decide) (abw (s:=uO n .none) (h.valid _) c),Ï I]; rfl
abbrev an1{n:aN}(h:Pg n)(c:bQ)(es:List bH):HK.app ⟨[uO n .none,uO n c],es,1⟩ (.remove 9)=(⟨[uO n .none,uO n c],es,1⟩,8):=by
 rw[K14 (h:=⟨[uO n .none,uO n c],es,1⟩) (t := .zero) (c:=8) (by show(1:Nat)≠256; decide) (h.rm9 c),É O]
abbrev Ua(w:Á) :
  Ä prog 26 #[] w λe w'=>∃m:aA,e = .R m.v∧yc w' m∧Ext w w':=by
 skip;refine Ë func26 ntmps26 λS=>Ú S [.i 0,.i 0,.u 0,.u 0,.u 0,.u 0,.sn] λu b2 E3 hb4 S=>î S (Gf _) ?_;rintro e u ⟨t,rfl,ht,E6⟩;refine⟨_,I,E6,λS=>?_⟩;refine Ú S (Sx.L [.i 1,.i 1,.i 0]++t.cells++Sx.L [.sn,.i 0,.u 255,.i 1,.z,.z,.sn,.i 0,.sn,.i 0,.i 0,.i 0,.i 0,.sn,.i 0,.sn,.i 0,.i 0,.sn,.i 0]) (λu b7 E8 hb9 S=>?_);have Qs:=S.bx 1;refine è S 1 (off:=0) (cs:=[.i 2,.i 1,.u 0,.u 0,.u 0,.u 0,.s (some ⟨b7,0,none⟩) 1 1]) I (λu C10 S=>?_);have Az:=TI.dG (ht.below E8) C10 Qs;refine ă S 1 I (v:=aA.v ⟨2,1,.none,some ⟨b7,0,none⟩,1,[vK 1 t]⟩) (λS=>?_);exact⟨_,I,ah3 Az (S.pV 0),S.E⟩
abbrev afz{base:Nat}{w:Á}{m:aA}(hc:gB base m.s m.ns w)(ho:bM K w m)(hl:∀n∈m.ns,n.xE K):dD base (λW=>bM K W m∧∀n∈m.ns,n.lim) w:=
 ē hc λW h=>⟨⟨ho.1,ho.2.1,h.1.1,λn hn=>⟨(h.2 n hn).1,(hl n hn).1⟩⟩,λn hn=>(hl n hn).2⟩
end
section
abbrev HK.Ok.step{h:HK}(o:h.Ok)(d:Int)(e:bH):(h.step d e).1.Ok:=by
 unfold HK.step;split
 .exact o.undo
 split
 .exact o.redo
 exact o.app e
abbrev HK.Ok.ah4{h:HK}(o:h.Ok)(d:Int)(e:bH):(h.step d e).1.ss[0]?=h.ss[0]?∧(h.step d e).1.es.length<=h.es.length+1:=by
 have hl:=o.hs.len;unfold HK.step;split
 .unfold HK.undo; split<;>exact⟨I,Nat.le_succ _⟩
 split
 .unfold HK.redo; split<;>exact⟨I,Nat.le_succ _⟩
 unfold HK.app;split
 .exact⟨I,Nat.le_succ _⟩
 unfold HK.put;split
 .have hk:=o.k;refine⟨?_,by show(h.es.take h.k++[e]).length<=_; simp; omega⟩;show(h.ss.take (h.k+1)++[_])[0]?=_;rw[List.getElem?_append_left (by simp; omega),List.getElem?_take_of_lt Z]
 exact⟨I,Nat.le_succ _⟩
abbrev HK.Ok.steps{h:HK}(o:h.Ok)(l:List iV):(h.steps l).Ok∧(h.steps l).ss[0]?=h.ss[0]?∧(h.steps l).es.length<=h.es.length+l.length:=by
 induction l generalizing h with
 | nil=>exact⟨o,I,Ó _⟩
 | cons x l ih =>
  obtain⟨h1,h2,h3⟩:=ih (o.step x.d x.e.key);obtain⟨h4,h5⟩:=o.ah4 x.d x.e.key;exact⟨h1,h2.trans h4,by simp only[Ĺ]; exact ï h3 Z⟩
abbrev HK.afA{s:aV}(hv:s.valid=true):HK.Ok ⟨[s],[],0⟩:=⟨Hs.new hv,Ó _,Õ _⟩
end
section
open Go.RowKit En Go.Sx
variable{K:Nat}
abbrev GR:ApC λ_=>True:=λh hg he hl hel _=>TF h hg he hl hel
abbrev aA.ok.below{w w':Á}{s:aA}(h:s.ok w)(hE:Ext w w'):s.ok w':=⟨h.1,h.2.1,h.2.2.1.below hE,λn hn=>(h.2.2.2 n hn).below hE⟩
abbrev ajl{w:Á}{m:aA}{v:À}{κ:aV}(h:∃t:aA,v=t.v∧bM 5000 w t∧t.key=κ)(hm:bM K w m)(hK:K<=5000)(hk:m.key=κ) :
  Ä prog 16 #[v,m.v] w (RF w (.b true)):=by
 obtain⟨t,rfl,ht,hk2⟩:=h;exact JI (Fe ht (hm.up hK O)) (by rw[hk,hk2]; simp)
end
end Go.Proofs.Pv
section
namespace Go.Sx
open Go.Proofs.Pv Go.RowKit Go.Rel Go.Sx
section
variable{P:Program}{Q:Exit->Act->Á->Prop}{w0 w:Á}{a:Act}{os:List Oper}{n:Nat}{l:List (Nat×À)}{bl:List (Nat×List À)}{vs:List eU}
abbrev an2(S:St w0 a w n l bl vs){R:Á->Á->Prop}{id:Nat}(kb:Nat){b:Nat}{A:List À}(hkb:bl[kb]?=some (b,A))(m k dk j dj:Nat)(V:À)(Ts:List Fact)(Tk:Fact)(hRc:∀x y,R x y->Ch b x y)(hm:qj.kS k Ext R 0 Ts)
  (hob:qj.qL P os.toArray (os.take m) Ts (qj.But k Ext R) (G9 k (Ch b w) (Ext w)) a.eval 0 (os.take m) Ts)
  (next:∀a' w' v,Ch b w w'->Tk v w'->(∀A',Bx w' b (List.toArray A')->Ext w0 w'->St w0 a' w' n ([(dj,V)]++l) (bl.set kb (b,A')) vs)->wpList P os.toArray Q (os.drop m) a' w')
  (hk:Ts[k]?=some Tk) (hj:Ts[j]?=some (Rel.is V))
  (hd:(((os[k]?).bind (·.dst)==some dk)&&((os[j]?).bind (·.dst)==some dj)&&decide (k<m)&&decide (j<m))=true:=by kernel_rfl)
  (hkp:(l.all λp=>(os.take m).all λo => !(o.dst==some p.1))=true:=by kernel_rfl)
  (hmo:P.follows .mixedOrders=true:=by kernel_rfl) (hB:okB os.toArray m n=true:=by kernel_rfl):(Code.region id os.toArray true).wp P Q a w:=by
 simp only[æ,Û,Ý]at hd;obtain⟨⟨⟨hdk,hdj⟩,hkm⟩,hjm⟩:=hd;obtain⟨hlen,hget⟩:=qj.kQ _ _ 0 hob;refine š hmo (Hg m (by rw[S.s.size]; exact hB) (qj.But k Ext R) (Ch b w) [] k (Ext w) Ts BJ ⟨I,I,I,Ó _,λ_ _ _=>rfl⟩ ⟨I,I,I,Ó _,λ_ _=>rfl⟩
  (λi x y h hR'=>?_) (λi x y hi h hR'=>?_) hm.mem (λi o hi ho=>?_) λa' w' hc hdf hs hf ho _=>?_)
 .unfold qj.But at hR';split at hR'
  .exact Ch.trans h (hRc _ _ hR')
  exact Ch.trans h (Ch.bY hR')
 .rw[qj.U5 hi]at hR';exact Ã h hR'
 .have:=hget i o (by rw[List.getElem?_take_of_lt hi]; exact ho);rw[Ĳ]at this; exact this
 have get:∀{i d:Nat} {F:Fact},i<m->(os[i]?).bind (·.dst)=some d->Ts[i]?=some F->F (a'.eval (.tmp d)) w':=λ{i d F} hi hd hF=>by
  cases h:os[i]? with
  | none=>rw[h]at hd; cases hd
  | some o =>
   rw[h,Ο]at hd;have h1:=hf i o (by rw[List.getElem?_take_of_lt hi]; exact h);rw[show Ts.getD i top=F by simp[List.getD,hF],hd]at h1;exact h1
 have hV:a'.eval (.tmp dj)=V:=get hjm hdj hj;refine next a' w' _ hc (get hkm hdk hk) λA' hX hE=>(S.ch hc hkb hX hE).act ⟨hs.trans S.s.size,hdf.trans S.s.defers,λi u hi=>?_⟩;rw[ō,ġ]at hi;split at hi
 .rename_i h2;obtain rfl:i=dj:=by simpa using h2
  exact hV.trans (Ü hi)
 have hi:l.lookup i=some u:=hi;have h5:=S.s.has i u hi;have h6:=ho i λj o hjm hoj hdo=>by
  have h7:=ø.1 hkp (i,u) (List.lookup_eq_some_iff.1 hi |>.elim λl1 h=>h.elim λl2 h=>by rw[h.1]; simp);have:=ø.1 h7 o (List.mem_of_getElem? (i:=j) (by rw[List.getElem?_take_of_lt hjm]; simpa using hoj));simp[hdo]at this
 rw[<-h5];simp only[Act.eval,Array.getD_eq_getD_getElem?,h6]
end
section
variable{P:Program}{o:Oper}{ρ:Operand->À}{w:Á}
abbrev dcR{R:Á->Á->Prop}(hs:Std ρ)(l:List (Nat×À)){T:Fact}{f:FuncId}{args:Array À}(hl:KnL ρ l)(hc:Ä P f args w (λe w''=>∃v,e = .R v∧R w w''∧T v w''))(hx:evC P o l=some (f,args):=by kernel_rfl)(hd:o.dst.isSome=true:=by rfl) :
  Does P o ρ w (λv w'=>R w w'∧T (kept o v) w'):=by
 unfold evC at hx;split at hx
 .rename_i f' args' hav hev;simp only[Ò,Ô]at hx;obtain⟨rfl,rfl⟩:=hx;simp only[Ĕ]at hav;have hH:Holds ρ (lift l):=λq x hq=>by
   rw[jm]at hq;cases h2:l.lookup q with
   | none=>simp[h2]at hq
   | some u =>
    simp only[h2,Ę,Ò]at hq;subst hq;rw[hl.look q u h2]; rfl
  refine yF (kH hs (gG hH o) (p:=[]) I hav.1 (by simpa using hav.2) hev) (hc.mono λe w'' h=>?_);obtain⟨v,h1,h2,h3⟩:=h;obtain⟨d,hd⟩:=į.1 hd;exact⟨v,h1,h2,by unfold kept; rw[hd]; exact h3⟩
 cases hx
abbrev dvx{T:Á->Prop}(hs:Std ρ)(l:List (Nat×À)){V:À}(hl:KnL ρ l)(hT:T w)(hx:evV P o l=some V:=by kernel_rfl)(hd:o.dst.isSome=true:=by rfl):Does P o ρ w (λv w'=>Ext w w'∧(kept o v=V∧T w')):=
 jf (os:=[o]) (i:=0) I hs l hl.look V ⟨ô,by obtain⟨d,hd⟩:=į.1 hd; unfold kept; rw[hd],hT⟩ hx
end
abbrev yS{b:Nat}{B:Nat->Prop}{F:Á->Prop}{w w':Á}(h:On B F w)(hB:∀i,B i->i≠b)(hc:Ch b w w'):On B F w':=λw2 hs hk =>
 h w2 (ï hc.size hs) λi hi hB'=>(hk i (ā hi hc.size) hB').trans (hc.block i hi (λe=>by simp only[Ò]at e; exact hB i hB' e))
section
variable{w0 w:Á}{b:Nat}{A:List À}{bl:List (Nat×List À)}{rs:List Row}{F:Á->Prop}
variable{e:TypeId}{k:Nat}{v:À}
abbrev afB{base:Nat}(h:Ow base (Ob ((b,A)::bl) rs) F w):On (λi=>i≠b) F w:=h.mono λi hi e=>hi.2 (e▸ë)
abbrev alD{c:Nat}{n:Nat}{xs:List À}(hv:v.ownBlock=none)(h:On (λi=>c<=i∧i≠b) F w)(ho:∀p∈bl,p.1<c)(h0:w0.heap.size<=c):Ow w0.heap.size (Ob ((b,A)::bl) [⟨e,k,v,n,xs⟩]) F w:=
 h.mono λi hi=>⟨ï h0 hi.1,λhm=>by
  unfold Ob at hm
  simp only[Ē,Ϧ,hv,List.filterMap_nil,ņ,ç,Ć]at hm
  rcases hm with rfl | ⟨p,hp,rfl⟩
  .exact hi.2 I
  .have:=ho p hp; have:=hi.1; omega⟩
abbrev row_ne{α:Type}{f:α->List À}{L:List α}(R:Rw w0 w ((b,A)::bl) [⟨e,k,v,L.length,L.flatMap f⟩])(hf:∀x,(f x).length=k):On (λi=>i≠b) (λW=>aI k f W v L) w:=λw2 hs hk =>
 On.self (lu hf (kY (R.own _ ë) λg hg=>hk g (iq (R.own _ ë) hg).2 λe=>by
  subst e
  have:=R.apart
  unfold Ob at this
  rw[Ē,ō,ŵ]at this
  exact this.1 (Ş _ (Ō.2 ⟨_,ë,hg⟩))) I I)
end
variable{k c g:Nat}
abbrev afC{α:Type}{f:α->List À}{w:Á}{a:Option Addr}{L:List α}(h:aI k f w (.s a L.length c) L)(hf:∀x,(f x).length=k)(i:Nat)(hi:i<L.length):∃g o,a=some ⟨g,o,none⟩∧w.rangeAt g (o+i*k) (f L[i]):=by
 obtain⟨g,o,c',e,-,h2⟩:=Vp.jR h hf i hi;cases e;exact⟨g,o,I,h2⟩
abbrev ah5{α:Type}{f:α->List À}{w:Á}{o i:Nat}{L:List α}{x:α}(h:aI k f w (.s (some ⟨g,o,none⟩) L.length c) L)(hf:∀x,(f x).length=k)(hi:i<L.length)(hx:L[i]=x):w.rangeAt g (o+i*k) (f x):=by
 subst hx;obtain⟨g',o',e,h2⟩:=afC h hf i hi;cases e;exact h2
abbrev aqQ{P:Program}{o:Oper}{ρ:Operand->À}{w:Á}{t e:TypeId}{x ix off n cap:Nat}(j:Nat)(hx:ρ (.tmp x) = .s (some ⟨g,off,none⟩) n cap)(hi:ρ (.tmp ix) = .i j)(hj:j<n)(hu:P.underlying t=some (.slice e))(hk:(P.info? e).map (·.size)=some k)(ho:o.op = .indexAddr t (.tmp x) (.tmp ix):=by rfl)(hd:o.dst.isSome=true:=by rfl) :
  Does P o ρ w (λv w'=>Ext w w'∧Rel.is (.pointer (some ⟨g,off+j*k,none⟩)) (kept o v) w'):=by
 unfold Does;rw[Vp.MW j ho hx hi hj hu hk];exact⟨ô,by obtain⟨d,hd⟩:=į.1 hd; unfold kept; rw[hd]; rfl⟩
end Go.Sx
namespace Go.Proofs.Pv
open Go.RowKit Go.Sx
variable{K:Nat}
def HD.at(H:HD)(j:Nat):HD:=⟨H.sa,H.sc,H.ss,H.ea,H.ec,H.es,j⟩
abbrev HD.Ok.at{H:HD}(h:H.Ok K){j:Nat}(hj:j<=H.es.length):(H.at j).Ok K:=⟨⟨h.k.hs,(by show j<=(H.es.map aP.key).length; rw[Ģ]; exact hj),h.k.most⟩,h.s,h.e⟩
abbrev ah6{L:List aA}{n:Nat}{F:Nat->aV}(h:L.map aA.key=(List.range n).map F){i:Nat}(hi:i<L.length):(L[i]).key=F i:=by
 have hn:i<n:=by have:=Ñ List.length h; simp at this; omega
 have:=Ñ (λl=>l[i]?) h;simpa[hi,hn]using this
abbrev afD{L:List aA}{i:Nat}{F:Nat->aV}{q:aA}(h:L.map aA.key=(List.range i).map F)(hq:q.key=F i):(L++[q]).map aA.key=(List.range (i+1)).map F:=by
 rw[ĥ,h,List.range_succ,ĥ,List.map_singleton,List.map_singleton,hq]
abbrev HD.ah7{H:HD}{s:aV}(h:H.key.ss[0]?=some s):(H.at 0).key.now=s:=by
 show((H.ss.map aA.key)[0]?).getD .zero=s;rw[show(H.ss.map aA.key)[0]?=some s from h]; rfl
abbrev Ub{x:Int}(h:0<=x∧x<=100000):IntKind.i64.wrap x=x:=by rw[Ř]; omega
section
variable{w0 w:Á}{b j:Nat}{ã H:HD}(hE:Ext w0 w)(hb:w0.heap.size<=b)(hok:H.Ok K)
include hE hb hok
abbrev alE(e:ã=H.at (j+1))(hj:j<=H.es.length)(hx:Bx w b ã.cells.toArray):Ä prog 14 #[.q b 0] w λr w'=>∃G':HD,r = .R (.i 0)∧G'=H.at j∧Ext w0 w'∧Ch b w w'∧Bx w' b G'.cells.toArray:=by
 subst e;refine(Ej (k:=j+1) hE hx hb (by have:=hok.le; omega)).mono λe w' h=>?_;rcases h with ⟨h0,-⟩ | ⟨k',hk,h1,h2,h3,h4⟩
 .omega
 obtain rfl:k'=j:=by omega
 exact⟨_,h1,I,h2,h3,h4⟩
omit hok in
abbrev an3(e:ã=H.at 0)(hx:Bx w b ã.cells.toArray):Ä prog 14 #[.q b 0] w λr w'=>r = .R (.i 20)∧Ext w0 w'∧Ch b w w'∧Bx w' b ã.cells.toArray:=by
 subst e;refine(Ej (k:=0) hE hx hb Z).mono λe w' h=>?_;rcases h with ⟨-,h1,h2,h3,h4⟩ | ⟨k',hk,-⟩
 .exact⟨h1,h2,h3,h4⟩
 omega
abbrev alF{G':HD}(e:ã=H.at j)(e':G'=H.at (j+1))(hj:j<H.es.length)(hx:Bx w b ã.cells.toArray):Ä prog 15 #[.q b 0] w λr w'=>∃v,r = .R v∧(Ch b w w'∧Bx w' b G'.cells.toArray)∧v = .i 0∧Bx w' b G'.cells.toArray∧Ext w0 w':=by
 subst e e';refine(MS (k:=j) hE hx hb (by have:=hok.le; omega)).mono λe w' h=>?_;rcases h with ⟨h0,-⟩ | ⟨-,h1,h2,h3,h4⟩
 .have:(H.at j).es.length=H.es.length:=I;omega
 exact⟨_,h1,⟨h3,h4⟩,I,h4,h2⟩
end
section
variable{w:Á}{b j:Nat}{ã H:HD}(hok:H.Ok K)
include hok
abbrev Zm(e:ã=H.at j)(hj:j<=H.es.length)(hx:Bx w b ã.cells.toArray)(hm:Sx.On (λi=>i≠b) (H.row K) w) :
  Ä prog 17 #[.q b 0] w λr w'=>∃m:aA,r = .R m.v∧dD w.heap.size (λW=>bM K W m) w'∧m.key=(H.at j).key.now∧Ext w w':=by
 subst e;exact(GI (c:=0) hx (hok.at hj) (ſ (F:=(H.at j).row K) hm λi h=>⟨Õ _,h⟩)).mono λe w' ⟨m,h1,h2,h3,h4,h5,h6⟩=>⟨m,h1,ē (afz h2 h3 h5) λ_ h=>h.1,h4,h6⟩
abbrev Zn{κ:aV}(e:ã=H.at j)(VW:(H.at j).key.now=κ)(hj:j<=H.es.length)(hx:Bx w b ã.cells.toArray)(hm:Sx.On (λi=>i≠b) (H.row K) w) :
  Ä prog 17 #[.q b 0] w λr w'=>∃v,r = .R v∧Ext w w'∧∃t:aA,v=t.v∧Sx.On (λi=>i≠b) (λW=>bM K W t) w'∧t.key=κ:=
 (Zm hok e hj hx hm).mono λe w' ⟨m,h1,h2,h3,h4⟩=>⟨_,h1,h4,m,I,ſ h2 (λi (h:w.heap.size<=i) e=>by have:=hx.1; omega),h3.trans VW⟩
end
end Go.Proofs.Pv
end
namespace Go.Proofs.Pv
section
open Go.RowKit En Go.Sx
structure afE (S:aV->Prop) (P:bH->Prop):Prop where
 sl:∀{s:aA},S s.key->s.key.valid=true->(gI.app (eP s.key)).length<=60000000
 el:∀{e:aP},P e.key->(Df e.key=true->e.key.node.chk=0)->(gI.app (lW e.key)).length<=60000000
 es:∀{K:Nat} {w:Á} {s:aA},bM K w s->bZ w->S s.key->s.key.valid=true ->
  Ä prog 28 #[s.v] w λr w'=>∃v,r = .R (.tuple #[v,.i 0])∧OwnB w.heap.size w' v (gI.app (eP s.key))∧Ext w w'
 ee:∀{K:Nat} {w:Á} {e:aP},jd K w e->bZ w->P e.key->qZ e.key=false->(Df e.key=true->e.key.node.chk=0) ->
  Ä prog 31 #[e.v] w λr w'=>∃v,r = .R (.tuple #[v,.i 0])∧OwnB w.heap.size w' v (gI.app (lW e.key))∧Ext w w'
 ds:∀{K:Nat} {w:Á} {s:aA} {v:À},K<=5000->bM K w s->bZ w->S s.key->s.key.valid=true->mD w v (gI.app (eP s.key)) ->
  Ä prog 48 #[v] w λr w'=>∃t:aA,r = .R (.tuple #[t.v,.i 0])∧dD w.heap.size (λW=>bM 5000 W t) w'∧t.key=s.key∧Ext w w'
 de:∀{K:Nat} {w:Á} {e:aP} {v:À},K<=5000->jd K w e->bZ w->P e.key->qZ e.key=false->(Df e.key=true->e.key.node.chk=0)->mD w v (gI.app (lW e.key)) ->
  Ä prog 49 #[v] w λr w'=>∃t:aP,r = .R (.tuple #[t.v,.i 0])∧dD w.heap.size (λW=>jd 5000 W t) w'∧t.key=e.key∧Ext w w'
end
section
open Go.RowKit En Go.Sx
variable{α:Type}{K:Nat}{Sp:aV->Prop}{Pb:bH->Prop}
abbrev HD.Ok.afF{H:HD}(h:H.Ok K)(hbc:afE Sp Pb)(hPf:∀e∈H.key.es,Pb e):∀e∈H.key.es,(eB e).length<=60000010:=λe he=>by
 have hp:=hPf e he;have hc:=(h.k.hs.enc he).2;obtain⟨x,hx,rfl⟩:=Ć.1 he;have h1:=hbc.el (e:=x) hp hc;have h2:=Jj (gI.app (lW x.key));unfold eB;omega
abbrev HD.Ok.alG{H:HD}(h:H.Ok K){s:aV}(h1:(gI.app (eP s)).length<=60000000)(h2:∀e∈H.key.es,(eB e).length<=60000010)(k n j:Nat):(hP s k n ((H.es.map aP.key).take j)).length<=20000000000:=by
 have a1:=Jj (gI.app (eP s));have a2:=mF 10 k;have a3:=mF 10 n;have a4:=Py (l:=(H.es.map aP.key).take j) λe he=>h2 e (ţ he);have a6:((H.es.map aP.key).take j).length<=256:=by have:=h.le; rw[Ľ,Ģ]; omega
 have a5:((H.es.map aP.key).take j).length*60000010<=256*60000010:=ő _ a6;unfold hP;simp only[ì];omega
abbrev afG{w:Á}{b c:Nat}{H:HD}(hbc:afE Sp Pb)(hSf:∀κ,H.key.ss[0]?=some κ->Sp κ)(hPf:∀e∈H.key.es,Pb e)(hx:Bx w b H.cells.toArray)(hok:H.Ok K)(hm:H.mem K c b w)(hg:bZ w) :
  Ä prog 10 #[.q b 0] w λr w'=>∃v,r = .R (.tuple #[v,.i 0])∧OwnB w.heap.size w' v H.key.bytes∧Ext w w':=by
 obtain⟨sa,sc,ss,ea,ec,es,ka⟩:=H;have hW:=ü hm;have hlen:ss.length=es.length+1:=hok.len;have hle:ka<=es.length∧es.length<=256:=hok.le;have hpos:0<ss.length:=Z
 have hmax:es.length<=9223372036854775807:=Z
 refine Ë func10 ntmps10 (λS=>?_);have S:=S.view0 hx.1 (hx.range 0 4 I);refine jc S (qH hx) λS=>ú S (λS=>?_);have Xw:0<ss.length:=hpos;obtain⟨b5,o6,rfl,s11,hx9,BQ,hr8⟩:=û hW.1.1 (λ_=>I) (0) Xw;have S:=S.view0 BQ hr8;have hs0:ss[0]?=some s11:=by rw[List.getElem?_eq_getElem hpos,hx9]
 have hsv:=hok.val (s:=s11) (hx9▸þ Xw);have hSs:Sp s11.key:=hSf _ (by show(ss.map aA.key)[0]?=_; rw[List.getElem?_map,hs0]; rfl);have hsl:=hbc.sl hSs hsv;refine Å S 7 [] [.M 1 0,.idx 0 ss.length,.M 0 0] (hk:=⟨Xw,G⟩) λS=>î S (hbc.es ((hW.1.2 _ (hx9▸þ Xw)).below S.E) (bZ.below hg S.E) hSs hsv) ?_;rintro e u ⟨v1,rfl,ho1,zu⟩;refine⟨_,I,zu,λS=>?_⟩;refine ú S (λS=>?_);have S0:=S.E.size;refine zq S (qA _ _ _ (xI ho1) Z) (λv2 u ho2 AA S=>?_);have R:=CW (ĺ S) ho2 (λp hp=>by cases hp) S0;have hB0:=hok.alG hsl (hok.afF hbc hPf) ka es.length;have hB:(iy (gI.app (eP s11.key))++fE 10 ka++fE 10 es.length).length<=20000000000:=by have:=hB0 0; simpa[hP]using this
 have hB1:=hB;simp only[ì]at hB1;refine Å S 8 [] [.M 1 2,.re 35 (.int .u64 (IntKind.u64.wrap (ka:Int))) (.int .u64 (ka:Int))] (hk:=⟨(Zi Z),G⟩) λS=>zq S (jK ka _ Z) (λu1 u hu1 KN S=>?_);obtain⟨R,Y20⟩:=R.dM S (ć KN);refine ċ S λS=>ů S R 37 (fE 10 ka) (Ba (hu1)) (by simp only[ì]at hB |-; omega) λac u v21 X22 R S=>FV S (λS=>?_);have S:=S.view0 hx.1 (hx.range 0 4 I);refine Å S 9 [] [.M 0 1,.re 45 (.int .u64 (IntKind.u64.wrap (es.length:Int))) (.int .u64 (es.length:Int))] (hk:=⟨(Zi Z),G⟩) λS=>zq S (jK es.length _ Z) (λu2 u hu2 EK S=>?_);obtain⟨R,Y25⟩:=R.dM S (ć EK);refine ċ S λS=>ů S R 47 (fE 10 es.length) (Ba (hu2)) (by simp only[ì]at hB |-; omega) λac u v26 X27 R S=>FV S (λS=>?_);have S:=S.view0 hx.1 (hx.range 0 4 I);refine Å S 8 [] [.M 0 1] λS=>ĕ S (ι:=Nat×À) (λp a' w'=>p.1<=es.length∧(True)∧Sx.Rw w w' [] [⟨5,1,p.2,(hP s11.key ka es.length ((es.map aP.key).take p.1)).length,(hP s11.key ka es.length ((es.map aP.key).take p.1)).map iO⟩]∧Sx.St w a' w' 73 [(0,.q b 0),(2,.sn),(3,.i 0),(4,v1),(5,.i 0),(6,p.2),(52,.s ea es.length ec),(53,.i es.length),(54,.i p.1)] [] []) (λp=>es.length-p.1) (0,v26) (λS=>⟨Õ _,G,R.as (show [Sx.bR v26 (iy (gI.app (eP s11.key))++(fE 10 ka)++(fE 10 es.length))]=[Sx.bR v26 (hP s11.key ka es.length ((es.map aP.key).take 0))] by simp[hP]),S.sn⟩) ?_;rintro⟨k,v⟩ ac u ig fC hI;try dsimp only at hI
 obtain⟨hk,hR,R,S⟩:=hI;refine Ė S λS=>È S (decide ((k:Int)<(es.length:Int))) (λhc32 S=>?_) (λhc32 S=>?_)
 .have Xx:k<es.length:=by have:=å hc32; omega
  obtain⟨b35,o36,rfl,x41,hx39,ajQ,an4⟩:=û hW.2.1 (λ_=>I) (k) Xx;have S:=S.view0 ajQ an4;refine Å S 2 [] [.idx k es.length,.M 0 0] (hk:=⟨Xx,G⟩) λS=>Ú S (Sx.L [.i 0,.i 0,.i 0,.i 0,.i 0,.i 0,.i 0]++Sx.za++Sx.L [.sn,.i 0,.u 0,.i 0,.z,.z,.sn,.i 0,.sn,.i 0,.i 0,.i 0,.i 0,.sn,.i 0,.sn,.i 0,.i 0,.sn,.i 0,.u 0,.u 0,.u 0,.u 0]) λu b43 Ũ Xe S=>è S 0 (off:=0) (cs:=x41.cells) I (λu ŭ S=>?_);have hem:=hok.k.hs.enc (e:=x41.key) (Ć.2 ⟨_,(hx39▸þ Xx),I⟩);have hPx:Pb x41.key:=hPf _ (Ć.2 ⟨_,(hx39▸þ Xx),I⟩);have hel:=hbc.el hPx hem.2;refine Å S 1 [] [.M 0 0] λS=>î S (hbc.ee ((hW.2.2 _ (hx39▸þ Xx)).below S.E) (bZ.below hg S.E) hPx hem.1 hem.2) ?_;rintro e u ⟨v4,rfl,ho4,Vx⟩;refine⟨_,I,Vx,λS=>?_⟩;refine ú S λS=>zq S (qA _ _ _ (xI ho4) Z) (λv5 u ho5 E51 S=>?_);have hB:=hB0 (k+1);rw[Zh Xx hx39]at hB;obtain⟨R,Y52⟩:=R.dM S (é (Sx.Stp.FT Ũ Xe) (é (Sx.Stp.V3 ŭ) (é (ć Vx) (ć E51))));refine ċ S λS=>ů S R 69 (eB x41.key) (Ba (ho5)) (by simp only[ì]at hB |-; omega) λac u v53 X54 R S=>FV S λS=>Å S 3 [] [.re 70 (.i (IntKind.i64.wrap ((k:Int)+1))) (.i (k+1:Nat))] (λS=>?_) (hk:=⟨ą Z,G⟩);have S:=S.l9 1;obtain⟨R,Y55⟩:=R.dM S (Ω 1);refine ė S ig (λS=>?_);exact fC _ _ ((k+1),v53) ⟨Z,G,R.as (show [Sx.bR v53 (hP s11.key ka es.length ((es.map aP.key).take k)++eB x41.key)]=[Sx.bR v53 (hP s11.key ka es.length ((es.map aP.key).take (k+1)))] by rw[Zh Xx hx39]),S.sn⟩ (by show _-_<_-_; omega)
 have hkn:es.length<=k:=by have:=ñ hc32; omega
 have hout:OwnB w.heap.size u v (hP s11.key ka es.length ((es.map aP.key).take k)):=R.own _ ë;rw[Ĝ (show(es.map aP.key).length<=k by rw[Ģ]; exact hkn)]at hout;have hbf:=hB0 k;rw[Ĝ (show(es.map aP.key).length<=k by rw[Ģ]; exact hkn)]at hbf;have S1:=S.E.size;refine zq S (xM _ (hP s11.key ka es.length (es.map aP.key)) _ (xI hout) Z) λv9 u ho9 E57 S=>Gt S v9 (.i 0) (λS=>?_);exact⟨_,I,Jo (bK ho9 S1) (HD.bytes_eq (H:=⟨_,_,ss,_,_,es,ka⟩) hs0),S.E⟩
abbrev alH{P:bH->Prop}(hA:ApC P){w:Á}{v:À}{H:HD}(hbc:afE Sp Pb)(hSf:∀κ,H.key.ss[0]?=some κ->Sp κ)(hPf:∀e∈H.key.es,Pb e)(hPe:∀e∈H.key.es,P e)(hv:mD w v H.key.bytes)(hok:H.Ok K)(hK:K<=5000)(hrow:H.row K w)(hg:bZ w) :
  Ä prog 24 #[v] w λr w'=>∃(b:Nat) (ã:HD),r = .R (.tuple #[.q b 0,.i 0])∧w.heap.size<=b∧Bx w' b ã.cells.toArray∧ã.mem 5000 w.heap.size b w'∧ã.Ok 5000∧ã.key=H.key∧Ext w w':=by
 have PI:=hok.k;have hby:H.key.bytes=gI.app (hB ((H.key.ss[0]?).getD .zero) H.key.k H.key.es):=I;have h0z:=PI.abj;have hpos:0<H.ss.length:=by have:=hok.len; omega
 obtain⟨s0,hs0⟩:∃z,H.ss[0]=z:=⟨_,I⟩;have alI:s0∈H.ss:=hs0▸þ hpos;have afH:(H.key.ss[0]?).getD .zero=s0.key:=by unfold HD.key; simp only[List.getElem?_map,List.getElem?_eq_getElem hpos,hs0]; rfl
 have hso:=hrow.1.2 s0 alI;have hsv:=hok.val alI;have hsl2:∀n∈s0.ns,n.lim:=λn hn=>(hok.s s0 alI n hn).2;have hSs:Sp s0.key:=hSf _ (by show(H.ss.map aA.key)[0]?=_; rw[List.getElem?_map,List.getElem?_eq_getElem hpos,hs0]; rfl);have hsl:=hbc.sl hSs hsv;have heo:=hrow.2.2;have hel:=hok.afF hbc hPf;have an5:∀e∈H.key.es,∃x,x∈H.es∧x.key=e:=λe he=>by obtain⟨x,h1,h2⟩:=Ć.1 he; exact⟨x,h1,h2⟩
 have ajm:H.key.k<=256:=ï PI.k PI.most;have Zo:=PI.most;have hkn:=PI.k;obtain⟨hk,hhk⟩:∃z,z=H.key:=⟨_,I⟩;rw[<-hhk]at hPe hPf hSf hv PI hby h0z afH hel an5 ajm Zo hkn;obtain⟨U3,alJ⟩:∃z,z=s0.key:=⟨_,I⟩;rw[<-alJ]at afH hsl;rw[afH]at hby h0z;have hlL:(hB U3 hk.k hk.es).length<=100000000000:=ï (ae0 hsl hel Zo) O;have hl2:=ae0 (k:=hk.k) hsl hel Zo;refine Ë func24 ntmps24 λS=>î S (Tc (hv.below S.E) (by rw[hby,oG]; omega)) ?_;rintro e u ⟨v1,m1,er1,rfl,hin,E3,aaY⟩;rw[hby]at aaY;obtain⟨rfl,rfl⟩:=ahU aaY;obtain⟨c1,hc1⟩:∃z:Nat,z=u.heap.size:=⟨_,I⟩;have hin1:=alh hin;rw[<-hc1]at hin1;obtain⟨a1,q1,rfl⟩:=hin.shape;refine⟨_,I,E3,λS=>?_⟩;refine Í S λu b4 E5 hb6 S=>č S 0 I (λu C7 S=>?_);have E8:=Ö E5 C7;refine ú S λS=>Í S λu b12 zu Tj S=>Í S λu b15 LU FY S=>č S 1 I (λu Ϻ S=>?_);have KN:=Ö (Ã E8 (Ã zu LU)) Ϻ (by have:=E8.size; omega);refine č S 0 I (λu Ia S=>?_);have FC:=Ö KN Ia (by have:=(Ã E8 zu).size; omega);have hcb:c1<=b12∧c1<=b15:=by have h1:=E8.size; have h2:=zu.size; omega
 have S:=S.fl;have hne:b12≠b15∧b4≠b12∧b4≠b15:=by have h:=S.apart; simp only[Ē,ŀ,ŵ,ç,not_or]at h; exact⟨λe=>h.1.1 e.symm,λe=>h.2.1.1 e.symm,λe=>h.1.2.1 e.symm⟩
 have S:=S.fl;refine GL S 1 0 O I I (Nc (v := .s a1 (hB U3 hk.k hk.es).length q1) (i:=0) (j:=(iy (gI.app (eP U3))).length) S.E (S.pV 2) (S.pV 1) (S.pV 0) (S.old 1) (S.old 0) hne.1 hne.2.1 hne.2.2 (gq (ü ((ò hin1 FC)))) hlL (ae1 hsl)) ?_;rintro e u ⟨x25,aqR,rfl,hx25,⟨e125,alK,aqS⟩,aqT,an6,aqU⟩;refine⟨_,aqR,_,_,I,⟨e125,alK,aqS⟩,⟨aqT,an6,aqU⟩,λS=>?_⟩;have S:=S.fl;have Qn:=Ö FC alK (by have:=E8.size; omega);have ϰ:=Ö Qn an6 (by have:=(Ã E8 zu).size; omega);have zs0:=(S.bx 0).1;have zs1:=(S.bx 1).1;have zs2:=(S.bx 2).1;refine î S (hbc.ds hK (hso.below S.E) (bZ.below hg S.E) hSs hsv (alJ▸hx25)) ?_;rintro e u ⟨s1,rfl,hs1,hk1,Qr⟩;refine⟨_,I,Qr,λS=>?_⟩;refine Í S λu b29 E30 ava S=>à S 0 I (λu C32 S=>?_);have E33:=Ö (Ã ϰ (Ã Qr E30)) C32 (by have:=(Ã ϰ Qr).size; omega);have Yw:=Ö E30 C32;refine Å S 7 [37,38] [.M 1 0] λS=>ú S (λS=>?_);have S:=S.fl;refine GL S 2 1 O I I (TJ (v := .s a1 (hB U3 hk.k hk.es).length q1) (i:=(iy (gI.app (eP U3))).length) (j:=((iy (gI.app (eP U3))).length+(fE 10 hk.k).length)) S.E (S.pV 3) (S.pV 2) (S.pV 1) (S.old 2) (S.old 1) hne.1 hne.2.1 hne.2.2 (gq (ü ((ò hin1 E33)))) (aqG ajm)) ?_;rintro e u ⟨aqV,rfl,⟨e138,c138,aqW⟩,e238,alL,aqX⟩;refine⟨_,aqV,_,_,I,⟨e138,c138,aqW⟩,⟨e238,alL,aqX⟩,λS=>?_⟩;have S:=S.fl;have U1:=Ö E33 c138 (by have:=E8.size; omega);have Ea:=(Sx.On.ch ((ò hs1 Yw)) c138 Z);have Qq:=Ö U1 alL (by have:=(Ã E8 zu).size; omega);have KW:=(Sx.On.ch Ea alL Z);have S:=S.fl;refine GL S 2 1 O I I (TJ (v := .s a1 (hB U3 hk.k hk.es).length q1) (i:=((iy (gI.app (eP U3))).length+(fE 10 hk.k).length)) (j:=(hP U3 hk.k hk.es.length []).length) S.E (S.pV 3) (S.pV 2) (S.pV 1) (S.old 2) (S.old 1) hne.1 hne.2.1 hne.2.2 (gq (ü ((ò hin1 Qq)))) (aqH Zo)) ?_;rintro e u ⟨aqY,rfl,⟨e143,c143,aqZ⟩,e243,alM,aq0⟩;refine⟨_,aqY,_,_,I,⟨e143,c143,aqZ⟩,⟨e243,alM,aq0⟩,λS=>?_⟩;have S:=S.fl;have Ũ:=Ö Qq c143 (by have:=E8.size; omega);have KX:=(Sx.On.ch KW c143 Z);have Ρ:=Ö Ũ alM (by have:=(Ã E8 zu).size; omega);have Z9:=(Sx.On.ch KX alM Z);have hold:=λp hp=>(S.own p hp).1.1;have lg:=S.E.size;have zn0:=(S.bx 0).1;have zn1:=(S.bx 1).1;have zn2:=(S.bx 2).1;have zn3:=(S.bx 3).1;obtain⟨c0,hc0⟩:∃z:Nat,z=u.heap.size:=⟨_,I⟩;refine Å S 3 [] [.M 0 0] λS=>î S (Pz (ü Z9) (bZ.below hg S.E) (λz hz=>aeV (Ñ aV.ns hk1) (λz hz=>((ü Z9).2.2.2 z hz).2) hsl2 z hz) (hk1▸hsv)) ?_;rintro e u ⟨bh,H1,rfl,hb1,hX1,hm1,⟨hok1,aq1⟩,NW⟩;rw[<-hc0]at hb1 hm1 hold lg zn0 zn1 zn2 zn3;refine⟨_,I,NW,λS=>?_⟩;have S:=S.adopt (A:=H1.cells) hX1 Z (λp hp=>by have:=hold p hp; omega) (λm hm=>by cases hm);refine Å S 20 [52,53,56,57,58,61,62] [.M 2 0,.re 58 (.b ((hk.es.length:Int)<(hk.k:Int))) (.z),.re 62 (.b ((256:Int)<(hk.es.length:Int))) (.z)] (hk:=⟨(Ñ Value.b (ľ Z)),(Ñ Value.b (ľ Z)),G⟩) λS=>ú S λS=>ĕ S (ι:=Nat×HD) (λp a' w'=>(p.2.key=hk.upto p.1∧p.2.Ok 5000∧p.2.mem 5000 c0 bh w'∧Sx.On (λi=>i<c1) (λW=>mD W (.s a1 (hB U3 hk.k hk.es).length q1) (hB U3 hk.k hk.es)) w'∧p.1<=hk.es.length)∧Sx.St w a' w' 106 [(0,v),(2,(.pointer none)),(3,.i 0),(4,.q b4 0),(5,.i 0),(6,.q b12 0),(7,.q b15 0),(8,.func (.func 44) #[] #[.q b4 0,.q b12 0,.q b15 0]),(9,.func (.func 46) #[] #[.q b4 0,.q b12 0,.q b15 0]),(10,.q b29 0),(11,.int .u64 (hk.k:Int)),(12,.int .u64 (hk.es.length:Int)),(13,.q bh 0),(64,.int .u64 (hk.es.length:Int)),(65,.int .u64 (p.1:Int))] [(bh,p.2.cells),(b29,s1.cells),(b15,[.b true]),(b12,[.i (((hP U3 hk.k hk.es.length (hk.es.take p.1)).length:Nat):Int)]),(b4,[.s a1 ((hB U3 hk.k hk.es).length) q1])] []) (λp=>hk.es.length-p.1) (0,H1) (λS=>⟨⟨aq1.trans (by rw[hk1,<-alJ]; exact h0z),hok1,hm1,((ò hin1 (Ã Ρ NW))),Õ _⟩,S.oK⟩) ?_;rintro⟨j,H2⟩ ac u ig fC hI;try dsimp only at hI
 obtain⟨hR,S⟩:=hI;refine Ė S (λS=>?_);have lg:=S.E.size;refine È S (decide ((j:Int)<(hk.es.length:Int))) (λalN S=>?_) (λalN S=>?_)
 .have hj:j<hk.es.length:=by have:=å alN; omega
  obtain⟨ek,hek⟩:∃z,hk.es[j]?=some z:=⟨_,List.getElem?_eq_getElem hj⟩;have heb:=hel _ (List.mem_of_getElem? hek);have S:=S.fl;refine GL S 3 2 O I I (Nc (v := .s a1 (hB U3 hk.k hk.es).length q1) (i:=(hP U3 hk.k hk.es.length (hk.es.take j)).length) (j:=(hP U3 hk.k hk.es.length (hk.es.take (j+1))).length) S.E (S.pV 4) (S.pV 3) (S.pV 2) (S.old 3) (S.old 2) hne.1 hne.2.1 hne.2.2 (gq (ü hR.2.2.2.1)) hlL (aqI hek heb)) ?_;rintro e u ⟨x59,aq2,rfl,aq3,⟨aq4,c159,x159⟩,e259,alO,aq5⟩;refine⟨_,aq2,_,_,I,⟨aq4,c159,x159⟩,⟨e259,alO,aq5⟩,λS=>?_⟩;have S:=S.fl;have Wu:=(Sx.On.ch hR.2.2.1 c159 Z);have Wj:=(Sx.On.ch hR.2.2.2.1 c159 Z);have KF:=(Sx.On.ch Wu alO Z);have ac2:=(Sx.On.ch Wj alO Z);obtain⟨e0,he0,rfl⟩:=an5 _ (List.mem_of_getElem? hek);have hem:=PI.hs.enc (List.mem_of_getElem? hek);refine î S (hbc.de hK ((heo _ he0).below S.E) (bZ.below hg S.E) (hPf _ (List.mem_of_getElem? hek)) hem.1 hem.2 aq3) ?_;rintro e u ⟨e1,rfl,he1,hk4,Ϟ⟩;refine⟨_,I,Ϟ,λS=>?_⟩;refine Í S λu b65 E66 avb S=>à S 0 I (λu C68 S=>?_);have E69:=Ö (Ã Ϟ E66) C68 (by have:=Ϟ.size; omega);have E70:=Ö (Ã Ϟ E66) C68 (by have:=Ϟ.size; omega);have E71:=Ö E66 C68;refine Å S 10 [76,77,80,81,83] [.M 3 0,.M 0 0] (λS=>?_);have S:=S.fl;have hap:=PI.ae5 hek;refine ċ S λS=>ae2 S 1 (some 82) I (vI hA (by rw[hk4]; exact hPe _ (List.mem_of_getElem? hek)) S.E (S.pV 1) (S.old 1) hb1 hR.2.1 ((ò KF E69)) (bZ.below hg S.E) (ü ((ò he1 E71))) (Ze (Ñ bH.node hk4) (ü ((ò he1 E71))).2.2.2.2.2 (hok.e _ he0).2)) ?_;rintro e u ⟨H3,cd,rfl,ah8,ae8,ς,hE3,Xq,hX3⟩;rw[hR.1,hk4,hap,Ô]at ah8;obtain⟨ah8,rfl⟩:=ah8;refine⟨_,_,I,hE3,Xq,hX3,λac S=>?_⟩;refine Y9 S (λS=>?_);have akQ:=(Sx.On.ch ((ò KF E69)) Xq Z);have adI:=(Sx.On.ch ((ò ac2 E70)) Xq Z);refine Å S 2 [76,77,80,81,83] [] λS=>ú S λS=>Å S 2 [] [.re 85 (.int .u64 (IntKind.u64.wrap ((j:Int)+1))) (.int .u64 (((j+1):Nat):Int))] (hk:=⟨(alj Z),G⟩) λS=>ė S ig (λS=>?_);exact fC _ _ ((j+1),H3) ⟨⟨ah8,ae8,ς,adI,hj⟩,(S.l9 1).oK⟩ (by show hk.es.length-(j+1)<hk.es.length-j; omega)
 refine Å S 6 [] [.re 88 (.i (IntKind.i64.wrap (hk.k:Int))) (.i hk.k)] (hk:=⟨(alk Z),G⟩) λS=>č S 0 I (λu Ia S=>?_);have Wn:=(Sx.On.ch hR.2.2.1 Ia Z);have aha:=(Sx.On.ch hR.2.2.2.1 Ia Z);obtain rfl:j=hk.es.length:=by have:=ñ alN; have:=hR.2.2.2.2; omega
 have hkG:(⟨H2.sa,H2.sc,H2.ss,H2.ea,H2.ec,H2.es,hk.k⟩:HD).key=hk:=by have:=PI.upto_all; rw[<-hR.1]at this; exact this
 have ah9:(⟨H2.sa,H2.sc,H2.ss,H2.ea,H2.ec,H2.es,hk.k⟩:HD).Ok 5000:=HD.Ok.aqJ hR.2.1 _ (ã:=H) (hkG.trans hhk) hok.k;have hmG:(⟨H2.sa,H2.sc,H2.ss,H2.ea,H2.ec,H2.es,hk.k⟩:HD).mem 5000 c0 bh u:=Wn;refine î S (afG (H:=(⟨H2.sa,H2.sc,H2.ss,H2.ea,H2.ec,H2.es,hk.k⟩:HD)) hbc (hkG.symm▸hSf) (hkG.symm▸hPf) (S.pV 0) ah9 hmG (bZ.below hg S.E)) ?_;rintro e u ⟨v5,rfl,hov,E80⟩;have hmG:=ò hmG E80;refine⟨_,I,E80,λS=>?_⟩;refine Å S 10 [100,101,103] [] λS=>ċ S λS=>uY S (some 102) (Đ (ae4 (lC _ _ _ _ _ (xI hov) (gq (hv.below S.E))) (by rw[hkG,Ŷ]))) ?_;rintro e u ⟨rfl,E82⟩;refine⟨_,I,E82,λac S=>?_⟩;refine Y9 S λS=>Å S 2 [100,101,103] [] λS=>ú S λS=>Gt S (.q bh 0) (.i 0) (λS=>?_);exact⟨bh,(⟨H2.sa,H2.sc,H2.ss,H2.ea,H2.ec,H2.es,hk.k⟩:HD),I,Z,S.pV 0,K12 ((ò hmG E82)) Z,ah9,hkG.trans hhk,S.E⟩
