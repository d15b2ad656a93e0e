/- Reference 37: Clone. Writing -/
import Derived.Test.YtodpgjjgaddkeaaGreatDoorPk22
set_option linter.unusedVariables false
set_option linter.unusedSimpArgs false
set_option maxRecDepth 100000
set_option maxHeartbeats 9999999
open Go renaming World->E5,Value->y9,Program->Ë,Oper->YM,wpList->Ã,TypeId->Ð
open Go.Proofs.Tryz Go.RowKit Go.Sx Go.Rel Go.Proofs.Õ
section
namespace Go.Proofs.Õ
variable{α:Type}{K:Nat}
abbrev V7{w:E5}{s:aB}(h:I64 s.w∧I64 s.h∧aG 47 aj.cells w s.s s.ns∧∀n∈s.ns,n.ok w)(ah:∀n∈s.ns,n.lim)(hn:s.ns.length<=214538854200) :
  Calls prog 23 #[s.v] w λe w'=>∃m:aB,e = .R m.v∧m.own w.heap.size w'∧m.ns.map aj.strip=s.ns.map aj.strip∧m.w=s.w∧m.h=s.h∧m.bg=s.bg∧Ext w w':=by
 have aw:s.ns.length<=9223372036854775807:=Z
 refine Ņ func23 ntmps23 λac S=>?_;obtain⟨a,cap,es⟩:∃a c,s.s = .s a s.ns.length c:=⟨_,_,I⟩;have hr:=h.2.2.1;rw[es]at hr;refine YJ λ_ fQ=>Ė S 1 s.cells λac u b2 E3 ax S=>Ė S 2 [.i 0,.i 0,.u 0,.u 0,.u 0,.u 0,.sn] λac u b5 E6 ay S=>Rh<|fQ _ _<|YJ λ_ BA=>?_;have R:=Č S;refine Υ S R 5 0 38 47 [] λac u v9 SE TJ R S=>Rf S 1 [] [(3,v9)] λS=>Rh<|BA _ _<|Ô λ_ Du=>YJ λ_ EL=>Rf S 1 [] [(4,.i 0)] λS=>Rh<|EL _ _<|Ě ?_;refine Vp.loop (ι:=Nat×y9×List aj) (λp a' w'=>p.1<=s.ns.length∧(p.2.2.map aj.strip=(s.ns.take p.1).map aj.strip)∧Rw w w' [(b5,[.i 0,.i 0,.u 0,.u 0,.u 0,.u 0,.sn]),(b2,s.cells)] [⟨38,47,p.2.1,p.1,p.2.2.flatMap aj.cells⟩]∧Sx.Ow w.heap.size (Ob [(b5,[.i 0,.i 0,.u 0,.u 0,.u 0,.u 0,.sn]),(b2,s.cells)] [⟨38,47,p.2.1,p.1,p.2.2.flatMap aj.cells⟩]) (λW=>∀z∈p.2.2,z.oZ w.heap.size W) w'∧Sx.St w a' w' 30 [(0,s.v),(1,.q b2 0),(2,.q b5 0),(3,p.2.1),(4,.i p.1)] [(b5,[.i 0,.i 0,.u 0,.u 0,.u 0,.u 0,.sn]),(b2,s.cells)] []) (λp=>s.ns.length-p.1) (0,v9,[]) ⟨Î _,I,R,(λ_ _ _ z hz=>by cases hz),S.sn⟩ ?_;rintro⟨k,v,M⟩ ac u hI;try dsimp only at hI
 obtain⟨hk,hR,R,Ad,S⟩:=hI;refine Ô λ_ uH=>YJ λ_ Ey=>Rf S 5 [.M 1 6,.re 8 s.s (.s a s.ns.length cap)] [(10,.b ((k:Int)<(s.ns.length:Int)))] (hk:=⟨es,G⟩) λS=>Rh (Ey _ _ ?_);refine Ā S (λD=>?_) λD=>?_
 .refine ú<|uH _ _<|Ô λ_ Ez=>Ě ?_;have ae:=S.E.size;have am:=R.lt;refine į ?_;have tH:k<s.ns.length:=by have:=Ý D; omega
  obtain⟨ao,ap,rfl,pF,J,IY,TP⟩:=ý hr (λ_=>I) (k) tH;have S:=S.view0 IY TP;refine Rf S 6 [.M 1 6,.re 15 s.s (.s (some ⟨ao,ap,none⟩) s.ns.length cap),.idx k s.ns.length,.M 2 0] [(13,v),(18,pF.v)] (hk:=⟨es,tH,G⟩) λS=>ģ S (some 19) (V5 ((h.2.2.2 _ (J▸ò tH)).below S.E) (ah _ (J▸ò tH))) ?_;rintro e u ⟨m,rfl,hm,av,Ku⟩;refine⟨_,I,Ku,λac S=>?_⟩;obtain⟨R,aq⟩:=R.aZ S (à Ku);have an:=ď (aU.ow hm ae am) λ_ h=>BL h ae;refine Ţ S 20 1 m.cells λac u az Oo ai S=>?_;have hM:M.length=k:=by have:=Ñ List.length hR; simp at this; omega
  obtain⟨R,af⟩:=R.aZ S (Ĥ Oo ai);refine Ń S R 0 21 I yc (oK (m:=1) (k:=47) (A:=m.cells) (S.bx 0)) (by show k+1<=9223372036854775807; omega) (by show(k+1)*656<=140737488355328; omega) λac u aa ab R S=>Rf S 1 [] [(3,aa)] λS=>Rh<|Ez _ _<|į<|Rf S 3 [kS 12 k] [(4,.i (k+1:Nat))] (hk:=⟨ù Z,G⟩) λS=>Rh ?_;have S:=S.gK 1;obtain⟨R,ag⟩:=R.aZ S (ĥ 1);show ∃i',_∧_;exact⟨((k+1),aa,M++[m]),⟨Z,(FQ tH J hR av),R.as (Ñ (λxs=>[(⟨38,47,aa,k+1,xs⟩:Sx.Row)]) (show M.flatMap aj.cells++m.cells=(M++[m]).flatMap aj.cells by simp)),ď (ï (þ Ad (Ì aq (Ì af (Ì ab ag)))) (þ an (Ì af (Ì ab ag)))) λ_ h=>DC h.1 h.2,S.sn⟩,by show _-_<_-_; omega⟩
 refine Ļ<|Du _ _<|YJ λ_ IK=>?_;have hk:=é D;obtain rfl:k=s.ns.length:=by omega
 rw[ħ]at hR;have hM:M.length=s.ns.length:=by have:=Ñ List.length hR; simpa using this
 rw[<-hM]at R;obtain⟨a1,c1,e1⟩:=Sx.jf (R.own _ Ö);replace e1:v = .s a1 M.length c1:=e1;subst e1;refine Rf S 8 [.M 1 0,.M 1 1,.M 1 2] [(29,.agg (Sx.L [.i s.w,.i s.h]++s.bg.cells++Sx.L [.s a1 M.length c1]).toArray)] λS=>Ğ S 0 (off:=0) (cs:=(Sx.L [.i s.w,.i s.h]++s.bg.cells++Sx.L [.s a1 M.length c1])) I λu al S=>Rh<|IK _ _<|ğ ?_;obtain⟨R,ar⟩:=R.aZ S (Sx.Stp.Eo al (by simp[Sx.vb]));have hF:=(þ Ad ar);have ho:=R.own _ Ö;exact ajB S 0 results23 I (v := .agg (aB.cells ⟨s.w,s.h,s.bg,a1,c1,M⟩).toArray) ⟨⟨s.w,s.h,s.bg,a1,c1,M⟩,I,⟨ho,hF.mono λi hi=>⟨hi.1,λe=>hi.2 (jh Ö e)⟩⟩,hR,I,I,I,S.E⟩
end Go.Proofs.Õ
namespace Go.Sx
abbrev Ty.atN{kp:Ð->Nat->Bool}{b0 base k n:Nat}{w w':E5}{e:Ð}{v:y9}(h:Ty e k b0 v n w)(hR:Rl kp base w w')(hn:0<n):∃g cap,v = .s (some ⟨g,0,none⟩) n cap∧b0<=g∧g<w.heap.size∧∃D,w'.heap[g]?=some (.cells D e (0,0))∧n*k<=D.size:=by
 rcases h with h | ⟨g,cap,D,h1,h2,J,h4⟩
 .omega
 obtain⟨c,S,h6,-⟩:=hR.obj g D e J;exact⟨g,cap,h1,h2,(oM J).1,c,S,by rw[h6]; exact h4⟩
variable{P:Ë}{ops:Array YM}{Q:Exit->Act->E5->Prop}{w0 w:E5}{a:Act}{os:List YM}{n base:Nat}{l:List (Nat×y9)}{bl:List (Nat×List y9)}{vs:List eX}
abbrev abf(S:St w0 a w n l bl vs)(kp:Ð->Nat->Bool){g off:Nat}{e:Ð}{J:Array y9}{v:y9}(hT:w.heap[g]?=some (.cells J e (0,0)))(hf:off<J.size)(hw:w0.heap.size<=g)(ag:∀p∈bl,p.1≠g)(hk:kp e off=false)
  (next:∀w',Rl kp w0.heap.size w w'->Ch g w w'->St w0 a w' n l bl []->Ã P ops Q (os.drop 1) a w')
  (hx:lC P os l=some (g,off,v,1):=by kernel_rfl) (h1:v.cells = #[v]:=by kernel_rfl) (ah:v.oneCell'=true:=by kernel_rfl):Ã P ops Q os a w:=by
 obtain⟨o,os',ty,x,y,rfl,hg,ac,D,ae,af,hi⟩:=oP hx;have aa:=gG (bT S.s) o;have ex:a.eval x = .q g off:=gB (Std.act a) (aa x (by rw[D]; simp[Op.operands])) (p:=[]) I ae;have ey:a.eval y=v:=gB (Std.act a) (aa y (by rw[D]; simp[Op.operands])) (p:=[]) I af;have ab:=KZ (P:=P) (A:=J.toList) D ex ey (by simpa using oM hT) hi (by simpa using hf) h1 ah;unfold Ã;rw[Á (by simp[Region.wanted,hg])];left;unfold Oper.wp;rw[ab];simp only[Oper.upon];rw[ac];exact next _ (Rl.set (cs:=[v]) hT hw (by simp; omega) λj D=>by
  obtain rfl:j=0:=by simpa using D
  exact hk) ((Ch.refl g w).setCells [v] off) (S.au5 hT hw ag)
end Go.Sx
namespace Go.Proofs.Õ
variable{α:Type}{K:Nat}
variable{v:y9}{w':E5}{s c:aB}
abbrev Zx{w:E5}{l:List aj}(h:yX K w v l):∀n∈l,n.Qx K:=λn hn=>(h.2 n hn).2
abbrev ahC{base:Nat}{w:E5}(h:bQ K w s)(D:fF base c.s c.ns w')(J:c.ns.map aj.strip=s.ns.map aj.strip)(hw:c.w=s.w)(S:c.h=s.h):bQ K w' c:=
 ⟨hw▸h.1,S▸h.2.1,D.ok (fits_all J (Zx h.F))⟩
abbrev ao3(D:c.ns.map aj.strip=s.ns.map aj.strip)(hw:c.w=s.w)(J:c.h=s.h)(S:c.bg=s.bg):c.key=s.key:=by
 unfold aB.key;rw[hw,J,S,vO D]
abbrev Zy{base:Nat}{w:E5}{l:List aj}(h:fF base v l w)(D:Ext w w'):fF base v l w':=Ü h D
end Go.Proofs.Õ
namespace Go.Sx
variable{P:Ë}{ops:Array YM}{Q:Exit->Act->E5->Prop}{w0 w:E5}{a:Act}{os:List YM}{n:Nat}{l:List (Nat×y9)}{bl:List (Nat×List y9)}{vs:List eX}
def ahD(P:Ë)(ops:Array YM)(os:List YM)(l:List (Nat×y9)):Option (Ð×Ð×Ð×y9×Nat):=match os with
 | o::_=>(match pathOf ops (lift l) o,o.dst,o.op with
  | some p,some d,.convert src dst x=>(match jP (lift l) p with
   | true=>(match rd (lift l) [] x,P.underlying src,P.underlying dst with
    | some v,some (.slice e),some .string=>(match P.underlying e with
     | some (.int .u8)=>some (src,dst,e,v,d)
     | _=>none)
    | _,_,_=>none)
   | false=>none)
  | _,_,_=>none)
 | []=>none
abbrev atO(S:St w0 a w n l bl vs){src dst e:Ð}{v:y9}{d:Nat}{bs:List UInt8}(hv:bK w v bs)(next:∀{a'},St w0 a' w n ((d,.string ⟨bs.toArray⟩)::l) bl vs->Ã P ops Q (os.drop 1) a' w)
  (D:ahD P ops os l=some (src,dst,e,v,d):=by kernel_rfl) (hd:uG n (some d)=true:=by rfl):Ã P ops Q os a w:=by
 cases os with
 | nil=>cases D
 | cons o os =>
  unfold ahD at D;simp only at D;split at D
  .rename_i p d' src' dst' x hp hdst hop;split at D
   .rename_i hgf;split at D
    .rename_i v' e' hxx hsrc hdd;split at D
     .rename_i hee;simp only[Æ,Ê]at D;obtain⟨rfl,rfl,rfl,rfl,rfl⟩:=D;have J:=gG (bT S.s) o;have ex:a.eval x=v':=gB (Std.act a) (J x (by rw[hop]; simp[Op.operands])) (p:=[]) I hxx;have J:(execOp a.eval o).run P w = .ok (.value (.string ⟨bs.toArray⟩)) w:=by
       have hr:=oC hsrc hee hdd hv;unfold execOp;rw[hop];simp only[ex];rw[ġ,hr];rfl
      unfold Ã;rw[Á ((qh (a:=a) hp (λx _ i y _ hl=>bT S.s i y hl)).2 hgf)];left;unfold Oper.wp;rw[J];simp only[Oper.upon];rw[hdst];exact next ((S.grow å).act (tC (d:=some d') S.s hd _))
     cases D
    cases D
   cases D
  cases D
abbrev ahE{t:Ð}{D J:Operand}{l m:List UInt8}{B:Bool}(hV:(l != m)=B) :
  ∀w,(do eqGuard .neq t D J (.string ⟨l.toArray⟩) (.string ⟨m.toArray⟩); binOp .neq t (.string ⟨l.toArray⟩) (.string ⟨m.toArray⟩):Sem y9).run P w = .ok (.b B) w:=λw=>by
 have S:(eqGuard .neq t D J (.string ⟨l.toArray⟩) (.string ⟨m.toArray⟩)).run P w = .ok () w:=I;have D:(binOp .neq t (.string ⟨l.toArray⟩) (.string ⟨m.toArray⟩)).run P w = .ok (.b (l != m)) w:=by
  rw[binOp_string_neq,ByteArray.toList_eq,ByteArray.toList_eq]; rfl
 simp only[ġ,S,D,hV,ş]
end Go.Sx
namespace Go.Sx
section
variable{P:Ë}{Q:Exit->Act->E5->Prop}{w0 w:E5}{a:Act}{os:List YM}{n:Nat}{l:List (Nat×y9)}{bl:List (Nat×List y9)}{vs:List eX}
abbrev atP{R:E5->E5->Prop}(S:St w0 a w n l bl vs){id:Nat}(m k dk j dj:Nat)(Ts:List Fact)(J Tj:Fact)(hR:∀x y,Ext w x->R x y->Ext w y)(hm:qX.lI k Ext R 0 Ts)
  (D:qX.qW P os.toArray (os.take m) Ts (qX.But k Ext R) (Ir k (Ext w) λ_=>True) a.eval 0 (os.take m) Ts)
  (next:∀a' w' v y,Ext w w'->J v w'->Tj y w'->St w0 a' w' n ([(dk,v),(dj,y)]++l) bl []->Ã P os.toArray Q (os.drop m) a' w')
  (hk:Ts[k]?=some J) (hj:Ts[j]?=some Tj)
  (hd:(((os[k]?).bind (·.dst)==some dk)&&((os[j]?).bind (·.dst)==some dj)&&decide (k<m)&&decide (j<m))=true:=by kernel_rfl)
  (ai:(l.all λp=>(os.take m).all λo => !(o.dst==some p.1))=true:=by kernel_rfl)
  (J:P.follows .mixedOrders=true:=by kernel_rfl) (hB:okB os.toArray m n=true:=by kernel_rfl):(Code.region id os.toArray true).wp P Q a w:=by
 simp only[Û,ß,Þ]at hd;obtain⟨⟨⟨af,ag⟩,ah⟩,aa⟩:=hd;obtain⟨al,ab⟩:=qX.lG _ _ 0 D;refine ſ J (Iy m (by rw[S.s.size]; exact hB) (qX.But k Ext R) (Ext w) [] k (λ_=>True) Ts CU ⟨I,I,I,Ç _,λ_ _=>rfl⟩ G
  (λi x y h J=>?_) (λ_ _ _ _ _ _=>G) hm.mem (λi o D ho=>?_) λa' w' hc ac hs hf ho _=>?_)
 .unfold qX.But at J;split at J
  .exact hR _ _ h J
  exact Ip h J
 .have:=ab i o (by rw[List.getElem?_take_of_lt D]; exact ho);rw[Ī]at this; exact this
 have get:∀{i d:Nat} {F:Fact},i<m->(os[i]?).bind (·.dst)=some d->Ts[i]?=some F->F (a'.eval (.tmp d)) w':=λ{i d F} D hd hF=>by
  cases h:os[i]? with
  | none=>rw[h]at hd; cases hd
  | some o =>
   rw[h,Α]at hd;have J:=hf i o (by rw[List.getElem?_take_of_lt D]; exact h);rw[show Ts.getD i top=F by simp[List.getD,hF],hd]at J;exact J
 refine next a' w' _ _ hc (get ah af hk) (get aa ag hj) ((S.grow hc).kZ.act ⟨hs.trans S.s.size,ac.trans S.s.defers,λi u D=>?_⟩);rw[Ĵ,ĝ]at D;split at D
 .rename_i h2;obtain rfl:i=dk:=by simpa using h2
  exact Ò D
 rw[Ĵ,ĝ]at D;split at D
 .rename_i h2;obtain rfl:i=dj:=by simpa using h2
  exact Ò D
 have D:l.lookup i=some u:=D;have h5:=S.s.has i u D;have h6:=ho i λj o aa J ae=>by
  have h7:=ñ.1 ai (i,u) (List.lookup_eq_some_iff.1 D |>.elim λl1 h=>h.elim λD h=>by rw[h.1]; simp);have:=ñ.1 h7 o (List.mem_of_getElem? (i:=j) (by rw[List.getElem?_take_of_lt aa]; simpa using J));simp[ae]at this
 rw[<-h5];simp only[Act.eval,Array.getD_eq_getD_getElem?,h6]
end
end Go.Sx
namespace Go.Proofs.Õ
abbrev CG:fM prog 70 75 (.agg (dV.cells ⟨0,0,0,0,0,bP,.none⟩).toArray) 56 704:=⟨underlying70,info_parts X,I,by decide⟩
def ŵ(ub:Nat)(l:List dV)(v:y9)(w:E5):Prop:=(l=[]∧∃ad,v = .s (some ad) 0 0)∨(0<l.length∧w.ownsRow ub 75 56 v l.length (l.flatMap dV.cells))
def T28(l:List dV)(v:y9)(w:E5):Prop:=∃A c,v = .s A l.length c∧aG 56 dV.cells w (.s A l.length c) l
structure R7 (ub:Nat) (l:List dV) (y:dV) (x z:E5):Prop where
 bel:Below ub x z
 p:∀v,ŵ ub l v x->ŵ ub l v z
 q:∀v,iC ub y.cells (some 1) v x->iC ub y.cells (some 1) v z
variable{ub:Nat}{l:List dV}{y:dV}{w:E5}
abbrev ŵ.ext{x z:E5}{v:y9}(h:ŵ ub l v x)(D:Ext x z):ŵ ub l v z:=h.imp id λh=>⟨h.1,Sx.dF h.2 D⟩
abbrev ŵ.base{D:Nat}{v:y9}(h:ŵ D l v w)(J:ub<=D):ŵ ub l v w:=h.imp id λh=>⟨h.1,Sx.ownsRow_base h.2 J⟩
variable{i sl sx:Nat}{o:YM}{ρ:Operand->y9}
abbrev ahF{os:List YM}(ho:os[i]?=some o){ad:Addr}{u:y9}(hs:ρ (.tmp sl) = .s (some ad) 0 0)(hx:ρ (.tmp sx)=u)(S:aG 56 dV.cells w u l)(aa:l.length*704<=140737488351232){Post:y9->E5->Prop}(hK:∀J w',ŵ w.heap.size l J w'->Ext w w'->Post J w')
  (D:FD os i=some (.tmp sl,.tmp sx,70,true):=by kernel_rfl):Rel.Does prog o ρ w Post:=by
 cases l with
 | nil =>
  obtain⟨a,c,rfl⟩:=S.shape;exact Ew ho CG (Ç 0) hs hx (hK _ _ (.inl ⟨I,ad,I⟩) å) D
 | cons x r=>exact KT ho CG hs hx S (λ_=>I) (λ_=>I) Z S.len (λJ w' h hE=>hK _ _ (.inr ⟨Nat.succ_pos _,h.elim (λh=>by cases h.1) id⟩) hE) D
abbrev R7.aY{x z:E5}(D:Ext x z)(J:ub<=x.heap.size):R7 ub l y x z:=⟨⟨D.os,D.tape,D.output,D.size,λk hk=>D.block k (ö hk J)⟩,λ_ h=>h.ext D,λv h=>iC.mono v x z D h⟩
abbrev t28{B:Nat}{v:y9}{L:List dV}(h:w.ownsRow B 75 56 v L.length (L.flatMap dV.cells)):T28 L v w:=by
 obtain⟨A,c,rfl⟩:=Sx.jf h;exact⟨A,c,I,æ (iZ (f:=dV.cells) (λ_=>I) h I I)⟩
abbrev ahG{os:List YM}(ho:os[i]?=some o)(ab:ub<=w.heap.size)(hs:ŵ ub l (ρ (.tmp sl)) w)(hx:iC ub y.cells (some 1) (ρ (.tmp sx)) w)(bh:l.length*704<=140737488351232)
  (hd:o.dst.isSome=true:=by rfl) (ai:FD os i=some (.tmp sl,.tmp sx,70,true):=by kernel_rfl):Rel.Does prog o ρ w (λv w'=>R7 ub l y w w'∧T28 (l++[y]) (Rel.kept o v) w'):=by
 have aq:∀v,Rel.kept o v=v:=λv=>by obtain⟨d,hd⟩:=Į.1 hd; unfold Rel.kept; rw[hd]
 simp only[aq];obtain⟨b,e2,hb,Ó⟩:=hx;replace e2:ρ (.tmp sx) = .s (some ⟨b,0,none⟩) 1 1:=e2;have ac:aG 56 dV.cells w (.s (some ⟨b,0,none⟩) 1 1) [y]:=zf (f:=dV.cells) [y] (λ_=>I) (by rw[List.flatMap_singleton]; exact Ó) (by show 1<=maxLen; decide);rcases hs with ⟨rfl,ad,e⟩ | ⟨h0,hs⟩
 .exact KT (L:=[y]) ho CG e e2 ac (λ_=>I) (λ_=>I) (by show 1*704<=_; decide) (by show 1<=maxLen; decide) (λv' w' h hE=>⟨R7.aY hE ab,h.elim (λh=>by cases h.1) λh=>t28 (L:=[y]) h⟩) ai
 have J:=jV ac (λ_=>I) (λ_=>I);have ae:=hs;have al:l.length+1<=maxLen:=ä (show l.length+1<=9223372036854775807 by omega) O;have am:(l.length+1)*704<=140737488355328:=Z
 have ar:∀u∈[y].flatMap dV.cells,u.oneCell'=true:=J.2.1;obtain⟨hl,⟨_,hn⟩ | ⟨g,cap,ay,ev,hg,aa,a8,a9,az,bb⟩⟩:=hs
 .omega
 by_cases hroom:l.length+1<=cap
 .obtain⟨h1,-⟩:=Ba ai ho;obtain⟨v',w',hr,ao,D,-⟩:=Hq (P:=prog) h1 CG ae I J e2 al am ab;obtain⟨ti,hi,-,af,-⟩:=CG.info;have a7:=(Sx.oM aa).1;have hv:v' = .s (some ⟨g,0,none⟩) (l.length+1) cap:=by
   have ah:∀(j:Nat) u,([y].flatMap dV.cells)[j]?=some u->w.cell? ((⟨b,0,none⟩:Addr).add j)=some u:=λj u hj=>by
    have e1:(⟨b,0,none⟩:Addr).add j=⟨b,0+j,none⟩:=by unfold Addr.add; split<;>simp_all
    rw[e1,Ī];have:=Ó.2.1 j;rw[List.flatMap_singleton]at hj;rw[this]; simpa using hj
   have av:=run_append_room (P:=prog) w 70 o.type 75 ti CG.und hi g l.length cap ay aa ⟨b,0,none⟩ 1 1 ([y].flatMap dV.cells) (by rw[af,List.flatMap_singleton]; rfl) ah ar hroom (by rw[af,az,List.flatMap_singleton]; show l.length*56+56<=cap*56; omega);unfold execOp at hr;simp only[h1,resolve,invoke,builtin,ġ,ž,ş,ϙ,đ,ĵ,ev,e2,av]at hr;injection hr with hr _;injection hr with hr;exact hr.symm
  subst hv;have S:∀k,k<w.heap.size->k≠g->w'.heap[k]?=w.heap[k]?:=λk hk ag=>D.block k hk (λe=>ag (by rw[ev]at e; simpa[Value.ownBlock]using e));have aw:=ao;obtain⟨bc,⟨e3,_⟩ | ⟨g3,a5,ap,e3,bd,a3,be,bg,a6,a4⟩⟩:=aw
  .cases e3
  cases e3;have ax:ap.toList.take (l.length*56)=l.flatMap dV.cells:=by
   have:=Ñ (List.take (l.length*56)) a4;rw[List.take_take,Ε (by show l.length*56<=(l.length+1)*56; omega),List.take_left' hl]at this;exact this
  unfold Rel.Does;rw[hr];refine⟨⟨⟨D.os,D.tape,D.output,D.size,λk hk=>S k (ö hk ab) Z⟩,λu hu=>?_,λu hu=>?_⟩,t28 (B:=ub) (by rw[Å,ŀ]; exact ao)⟩
  .rcases hu with h | ⟨_,hl1,⟨_,hn⟩ | ⟨g1,cap1,azh,e1,hg1,aks,hn1,hm1,hsz1,azi⟩⟩
   .exact .inl h
   .omega
   refine .inr ⟨h0,hl1,.inr ?_⟩;by_cases hgg:g1=g
   .subst hgg;rw[aa]at aks;cases aks;exact⟨g1,cap1,ap,e1,hg1,a3,hn1,hm1,Z,ax⟩
   exact⟨g1,cap1,azh,e1,hg1,(S g1 (Sx.oM aks).1 hgg).trans aks,hn1,hm1,hsz1,azi⟩
  obtain⟨b1,h4,h5,h6⟩:=hu;have ag:b1≠g:=by
   rintro rfl;have h7:=h6.2.1 56;rw[show y.cells.toArray[56]?=none from rfl]at h7;simp only[World.cell?,aa]at h7;rw[Array.getElem?_eq_getElem Z]at h7;cases h7
  have an:=S b1 h6.1 ag;exact⟨b1,h4,h5,ö h6.1 D.size,λi=>(World.cell?_of_block (a:=⟨b1,i,none⟩) an).trans (h6.2.1 i),λi=>(World.frozen?_of_block (a:=⟨b1,i,none⟩) an).trans (h6.2.2 i)⟩
 obtain rfl:cap=l.length:=by omega
 refine uF (f:=l.length) ho CG ev e2 (ev▸SK ae (λu hu=>?_)) J (Nat.succ_pos 0) al am (λv' w' h hE=>⟨R7.aY hE ab,t28 (by rw[Å,ŀ]; exact h)⟩) ai;obtain⟨x,_,hx⟩:=List.mem_flatMap.1 hu;exact ñ.1 (show x.cells.all (·.oneCell')=true from rfl) u hx
end Go.Proofs.Õ
namespace Go.Sx
variable{P:Ë}{B:Exit->Act->E5->Prop}{w0 w:E5}{a:Act}{n:Nat}{z:Zt}{bl:List (Nat×List y9)}{vs:List eX}
abbrev zl0(S:St w0 a w n z.l bl vs)(h:∀{a'},St w0 a' w n (zM P n z).l bl vs->Ã P (zA (zM P n z)) (zp P B (zK (zM P n z))) (pz (zM P n z)) a' w)(D:uf (zM P n z)=true:=by kernel_rfl):Gz P B z a w:=alL S λS=>Ω D (h S)
end Go.Sx
namespace Go.Proofs.Õ
open En
variable{K:Nat}
abbrev V8{B:Nat->Prop}{F:E5->Prop}{w u w':E5}{g:Nat}(h:Sx.On B F w)(J:Ext w u)(D:w.heap.size<=g)(S:Ch g u w'):Sx.On B F w':=λw2 hs hk =>
 h w2 (ä J.size (ä S.size hs)) λk D hB =>
  (hk k (ö D (ä J.size S.size)) hB).trans ((S.block k (ö D J.size) (λe=>by simp only[Æ]at e; omega)).trans (J.block k D))
abbrev _root_.Go.Sx.Ty.blk{k b0 n:Nat}{w:E5}{e:Ð}{v:y9}(h:Sx.Ty e k b0 v n w)(hb:b0<=w.heap.size):∃g,b0<=g∧g<=w.heap.size∧(0<n->g<w.heap.size)∧∀D c,0<n->v = .s (some ⟨D,0,none⟩) n c->D=g:=by
 rcases h with h | ⟨g,cap,S,h1,h2,J,h4⟩
 .exact⟨b0,Ç _,hb,λh'=>by omega,λ_ _ h'=>by omega⟩
 exact⟨g,h2,Δ (Sx.oM J).1,λ_=>(Sx.oM J).1,λD c _ e=>by rw[h1]at e; cases e; rfl⟩
abbrev HK.ahH{h h':HK}{e:bY}{c:Int}(D:(h',c)=h.app e)(J:(c==0)=false):h'=h:=by
 unfold HK.app HK.put at D;have J:c≠0:=by simpa using J
 split at D
 .exact Ñ Prod.fst D
 split at D
 .exact absurd (Ñ Prod.snd D) J
 exact Ñ Prod.fst D
abbrev xu{w:E5}{s:aB}{l:List dV}{a:Option Addr}{cap:Nat}{e:aQ}(J:s.ok w)(e2:∀n∈s.ns,n.lim)(e3:s.ns.length<=214538854200)(an:aG 56 dV.cells w (.s a l.length cap) l)(hx:∀x∈l,x.ok w)(ck:l.length*704<=140737488351232)(he:e.ok w)(hg:bU w) :
  Calls prog 5 #[s.v,.s a l.length cap,e.v] w (Ï w (.b true)):=by
 have D:l.length<=9223372036854775807:=an.len;refine Ä func5 ntmps5 λS=>Â S λu b2 E3 D S=>Â S λu b5 E6 D S=>?_;have co:=S.bx 1;have cq:=S.bx 0;refine WZ S f5 1 λS iz=>?_;refine Sx.atP S (R:=R7 u.heap.size l ⟨0,e⟩) 8 7 28 0 21 [Rel.is s.v,λv _=>∃ad,v = .s (some ad) 0 0,Rel.is (.s a l.length cap),ŵ u.heap.size l,Rel.is e.v,Rel.is (dV.v ⟨0,e⟩),iC u.heap.size (dV.cells ⟨0,e⟩) (some 1),T28 (l++[⟨0,e⟩])] (T28 (l++[⟨0,e⟩])) (Rel.is s.v) (λx y hE h=>Β (show Below _ _ _ from hE) h.bel)
  ⟨aA _,λ_=>aA _,λ_ _ _ _ h=>h,λ_ _ _ _ _ h=>h,aA _,λ_=>aA _,λv w w' hE h=>ŵ.ext h hE,λ_ v w w' hR h=>hR.p v h,aA _,λ_=>aA _,aA _,λ_=>aA _,iC.mono,λ_ v w w' hR h=>hR.q v h,λ_ _ _ hE ⟨A,c,e,h⟩=>⟨A,c,e,h.below hE⟩,λe=>absurd I e,G⟩
  ⟨λρ u1 J ho hC D=>W9 ((ho 3 I).trans (S.s.ev X)) ((co.ext hC.1).range 0 7 I),
  λρ u1 J ho hC D=>rC (os:=[_]) (i:=0) I J [] (λq v h=>by cases h) [] (some 0) (λv w' ⟨b,h1,_⟩ e=>⟨e,⟨b,0,none⟩,h1⟩),
  λρ u1 J ho hC D=>Ø J [(1,.s a l.length cap)] ⟨(ho 1 I).trans (S.s.ev X),G⟩,
  λρ u1 J ho hC D=>(D.1 I).elim λad e1=>ahF (os:=[_]) (i:=0) I e1 (D.2.1 I) (an.below (Ip S.E hC.1)) ck λv' w' h hE=>⟨hE,h.base hC.1.size⟩,
  λρ u1 J ho hC D=>W9 ((ho 5 I).trans (S.s.ev X)) ((cq.ext hC.1).range 0 55 I),
  λρ u1 J ho hC D=>Ø J [(25,e.v)] ⟨D.1 I,G⟩,
  λρ u1 J ho hC D=>rC (os:=[_]) (i:=0) I J [(26,dV.v ⟨0,e⟩)] (Ľ (D.1 I)) (dV.cells ⟨0,e⟩) (some 1) λv w' ⟨b,h1,h2,h3⟩ e=>⟨e,b,h1,ä hC.1.size h2,h3⟩,
  λρ u1 J ho hC D=>ahG (os:=[_]) (i:=0) I hC.1.size (D.1 I) (D.2.1 I) ck,G⟩ (λac u e5 e6 E9 cm cn S=>?_) I I
 refine Um S λS=>?_;obtain⟨a7,c7,rfl,ds⟩:=cm;obtain rfl:=cn;refine ð S (VR ⟨J.D.below S.E,λn hn=>(J.N n hn).below S.E⟩ ds (λx ab=>((ā.1 ab).elim (λh=>(hx x h).J) λh=>by rw[û.1 h]; exact he.O).below S.E)) λu BG S=>À S (!(wE s (l++[⟨0,e⟩]))) (λa3 S=>?_) λa3 S=>?_
 .refine ð S (zy (P:=λ_=>True) wH (λ_ _=>G) (bU.below hg S.E)) λu wR S=>Xe S (.b true) λS=>?_;exact⟨I,S.E⟩
 have hL:wE s (l++[⟨0,e⟩])=true:=by simpa using a3
 obtain⟨h1,h2,h3⟩:=Zw hL;have h4:∀x∈l,x.e.node.lt=true:=λx ab=>h3 x (ū _ ab);have h5:e.node.lt=true:=h3 ⟨0,e⟩ (ś _ Ö);have fd:=(S.bx 0).1;have fe:=(S.bx 1).1;have zc:=S.E.size;refine O1 S 1 [] [.M 1 0] λS=>ê S (V7 (J.below S.E) e2 e3) ?_;rintro e u ⟨m,rfl,om,os,ow,oh,ob,Em⟩;have a4:=om.cp;have zE:=Em.size;obtain⟨go,fz,f0,dt,du⟩:=Sx.Ty.blk (æ a4).1.2 zE;refine⟨_,I,Em,λS=>?_⟩;refine Â S λu ao zU BD S=>É S 0 I λu yY S=>?_;have xE:=È zU yY;have ff:m.key=s.key:=ao3 os ow oh ob;have fg:m.ns.length=s.ns.length:=by simpa using Ñ List.length os
 have bm:m.ns.length<=64->bQ 20 u m∧∀n∈m.ns,n.lim:=λhl=>by obtain⟨k1,k2⟩:=aB.ahm h1 J Z; exact⟨ahC k1 (Zy a4 xE) os ow oh,vP os k2⟩
 cases hv:m.key.valid
 .refine O1 S 2 [] [.M 0 0] λS=>ð S (aoV (lv := .s a l.length cap) bm (bU.below hg S.E) hv) λu e7 S=>ã S λS=>ð S (zy (P:=λ_=>True) wH (λ_ _=>G) (bU.below hg S.E)) λu e8 S=>Xe S (.b true) λS=>?_;exact⟨I,S.E⟩
 obtain⟨ho,bw⟩:=bm (KN hv);have ae:=λp hp=>(S.own p hp).1.1;have kS:=S.E.size;have zm:=(S.bx 0).1;obtain⟨c0,dx⟩:∃z:Nat,z=u.heap.size:=⟨_,I⟩;refine O1 S 2 [] [.M 0 0] λS=>ê S (adx (P:=λ_=>True) wH ho bw (bU.below hg S.E) hv (an.below S.E) (λx ab=>⟨(step_ok (h4 x ab) (hx x ab)).1.below S.E,(step_ok (h4 x ab) (hx x ab)).2,G⟩)) ?_;rintro e u ⟨bh,H1,rfl,d9,eb,bc,aa,gb,Ku⟩;rw[<-dx]at d9 bc ae kS zm;refine⟨_,I,Ku,λS=>?_⟩;have S:=S.fl;have S:=S.adopt (A:=H1.cells) eb Z (λp hp=>by have:=ae p hp; omega) (λm hm=>by cases hm);refine ă S λS=>?_;have fh:=(S.bx 0).1;have fi:=(S.bx 1).1;have fj:=(S.bx 2).1;have fk:=(S.bx 3).1;refine ê S (sW (S.kV 0) aa bc) ?_;rintro e u ⟨q,rfl,ed,ee,bd,ef,Oo⟩;have Zh:=ahA ed ee ef;have fm:=Oo.size;refine⟨_,I,Oo,λS=>?_⟩;refine Â S λu af Tt e9 S=>É S 0 I λu GZ S=>?_;have GK:=È (Ip xE (Ip Ku (Ip Oo Tt))) GZ (by have:=(Ip xE (Ip Ku Oo)).size; omega);have ct:=È (Ip Oo Tt) GZ (by have:=Oo.size; omega);have Mc:=È Tt GZ;obtain⟨u5,dy⟩:∃z:E5,z=u:=⟨_,I⟩;subst dy;have bo:=æ (Zy a4 GK);have yo:=S.E.size;have fo:m.ns.length<=9223372036854775807:=bo.1.1.len;have cu:=((Ü bc ct));have cv:=((Ü Zh Mc));refine O1 S 4 [] [.M 2 6] λS=>ĉ S (ι:=Nat) (λy a' w'=>y<=m.ns.length∧(Sx.Rl (λ_ _=>false) w.heap.size u5 w'∧Ch go u5 w')∧Sx.St w a' w' 124 [(0,s.v),(1,.s a l.length cap),(2,e.v),(3,.q b2 0),(5,.q b5 0),(6,.z),(7,.q ao 0),(8,.q bh 0),(9,.q af 0),(44,.i m.ns.length),(45,.i y)] [(af,q.cells),(bh,H1.cells),(ao,m.cells),(b5,e.cells),(b2,s.cells)] []) (λy=>m.ns.length-y) (0) (λS=>⟨Î _,⟨Sx.Rl.refl,Ch.refl _ _⟩,S.qC⟩) ?_;rintro k ac u fQ eu hI;try dsimp only at hI
 obtain⟨hk,hR,S⟩:=hI;refine Ċ S λS=>À S (decide ((k:Int)<(m.ns.length:Int))) (λbe S=>?_) λbe S=>?_
 .have azl:k<m.ns.length:=by have:=Ý be; omega
  obtain⟨bz,dz,ca,e4,f1,f2,d0,f3⟩:=Sx.Ty.atN (bo.1.2) (hR.1) Z;have cw:=dt Z;obtain rfl:bz=go:=du _ _ Z ca;refine O1 S 7 [] [.M 2 6,.re 49 m.s (.s (some ⟨bz,0,none⟩) m.ns.length dz),.idx k m.ns.length] (hk:=⟨ca,azl,G⟩) λS=>è S λS=>Sx.abf S (λ_ _=>false) (off:=0+k*47+0) (v := .i (-9)) d0 Z Z (by simp; omega) I λu Ó C S=>zo0 S λS=>?_;have cx:=(hR.1).trans Ó;have Nl:=Ch.trans hR.2 C;refine O1 S 2 [] [.re 53 (.i (IntKind.i64.wrap ((k:Int)+1))) (.i (k+1:Nat))] (hk:=⟨ù Z,G⟩) λS=>ċ S fQ λS=>?_;exact eu _ _ (k+1) ⟨Z,⟨cx,Nl⟩,S.qC⟩ (by show _-_<_-_; omega)
 have cy:=HD.ake cu hR.2 Z;have cz:=Sx.On.ch cv hR.2 Z;have fp:=S.E.size;have bp:=cy;have da:=cz;have fq:=(S.bx 0).1;have fr:=(S.bx 1).1;have ft:=(S.bx 2).1;have fu:=(S.bx 3).1;have fv:=(S.bx 4).1;have zp:=S.E.size;obtain⟨u6,d1⟩:∃z:E5,z=u:=⟨_,I⟩;subst d1;refine ê S (sW (S.kV 1) aa bp) ?_;rintro e u ⟨p,rfl,cf,-,-,-,Xw⟩;have db:=Xw.size;obtain⟨gp,f4,f6,cb,d2⟩:=Sx.Ty.blk (æ cf).1.2 db;refine⟨_,I,Xw,λS=>?_⟩;refine Â S λu bg Xx fa S=>É S 0 I λu TB S=>?_;have dd:=È (Ip Xw Xx) TB (by have:=Xw.size; omega);have fw:=È (Ip Xw Xx) TB (by have:=Xw.size; omega);have X3:=È Xx TB;obtain⟨u7,d3⟩:∃z:E5,z=u:=⟨_,I⟩;subst d3;have bq:=æ (Zy cf X3);have yp:=S.E.size;have fy:p.ns.length<=9223372036854775807:=bq.1.1.len;have br:=dd;refine O1 S 4 [] [.M 0 6] λS=>ĉ S (ι:=Nat) (λy a' w'=>y<=p.ns.length∧(Sx.Rl (λ_ _=>false) w.heap.size u7 w'∧Ch gp u7 w')∧Sx.St w a' w' 124 [(0,s.v),(1,.s a l.length cap),(2,e.v),(3,.q b2 0),(5,.q b5 0),(6,.z),(7,.q ao 0),(8,.q bh 0),(9,.q af 0),(11,.q bg 0),(44,.i m.ns.length),(58,.i p.ns.length),(59,.i y)] [(bg,p.cells),(af,q.cells),(bh,H1.cells),(ao,m.cells),(b5,e.cells),(b2,s.cells)] []) (λy=>p.ns.length-y) (0) (λS=>⟨Î _,⟨Sx.Rl.refl,Ch.refl _ _⟩,S.qC⟩) ?_;rintro k ac u Og eg hI;try dsimp only at hI
 obtain⟨hk,hR,S⟩:=hI;refine Ċ S λS=>À S (decide ((k:Int)<(p.ns.length:Int))) (λbj S=>?_) λbj S=>?_
 .have azo:k<p.ns.length:=by have:=Ý bj; omega
  obtain⟨cc,d4,ce,f7,f8,f9,d5,ga⟩:=Sx.Ty.atN (bq.1.2) (hR.1) Z;have cw:=cb Z;obtain rfl:cc=gp:=d2 _ _ Z ce;refine O1 S 7 [] [.M 0 6,.re 63 p.s (.s (some ⟨cc,0,none⟩) p.ns.length d4),.idx k p.ns.length] (hk:=⟨ce,azo,G⟩) λS=>è S λS=>Sx.abf S (λ_ _=>false) (off:=0+k*47+2) (v := .i 77) d5 Z Z (by simp; omega) I λu Ó C S=>zo0 S λS=>?_;have de:=(hR.1).trans Ó;have df:=Ch.trans hR.2 C;refine O1 S 2 [] [.re 67 (.i (IntKind.i64.wrap ((k:Int)+1))) (.i (k+1:Nat))] (hk:=⟨ù Z,G⟩) λS=>ċ S Og λS=>?_;exact eg _ _ (k+1) ⟨Z,⟨de,df⟩,S.qC⟩ (by show _-_<_-_; omega)
 have Q5:H1.mem 20 c0 bh u:=V8 bp br Z hR.2;have a5:=V8 da br Z hR.2;refine ê S (qR (S.kV 2) aa Q5 (bU.below hg S.E)) ?_;rintro e u ⟨vb,rfl,eh,GV⟩;have aq:=KR eh;refine⟨_,I,GV,λS=>?_⟩;have ae:=λp hp=>(S.own p hp).1.1;have kS:=S.E.size;have dh:=æ ((Ü Q5 GV));obtain⟨c1,d6⟩:∃z:Nat,z=u.heap.size:=⟨_,I⟩;refine ê S (Pj (P:=λ_=>True) wH (λ_ _=>G) (æ aq) aa O dh (bU.below hg S.E)) ?_;rintro e u ⟨bu,ì,rfl,ar,ei,cg,ej,ek,ag⟩;rw[<-d6]at ar cg ae kS;refine⟨_,I,ag,λS=>?_⟩;have S:=S.adopt (A:=ì.cells) ei Z (λp hp=>by have:=ae p hp; omega) (λm hm=>by cases hm);have al:=æ ((Ü a5 (Ip GV ag)));have S:=S.fl;refine WZ S f5 21 λS iz=>?_;have S:=S.sub [(5,.q b5 0),(8,.q bh 0),(9,.q af 0),(13,vb),(15,.q bu 0)];refine OD S 9 [Rel.is (.q bu 0),Rel.is (.z),Rel.is (.z),Rel.is (.q bh 0),(λv w1=>∃t:aB,v=t.v∧bQ 5000 w1 t∧t.key=H1.key.now),Rel.is (q.v),Rel.is (.b true),Rel.is (.z),Rel.is (.z)] 8 86 (.z) ⟨aA _,aA _,aA _,aA _,λ_ _ _ k h=>by obtain⟨t,e,h1,h2⟩:=h; exact⟨t,e,h1.below k,h2⟩,aA _,aA _,aA _,aA _,G⟩ ⟨λρ u1 J ho hC D=>Ø J [(15,.q bu 0)] ⟨(ho 15 I).trans (S.s.ev I),G⟩,
  λρ u1 J ho hC D=>Ø J [(78,.q bu 0)] ⟨D.1 I,G⟩,
  λρ u1 J ho hC D=>Ø J [(79,.z)] ⟨D.1 I,G⟩,
  λρ u1 J ho hC D=>⟨λ_=>Ø J [(8,.q bh 0)] ⟨(ho 8 I).trans (S.s.ev I),G⟩,λhn=>absurd (D.1 I) hn⟩,
  λρ u1 J ho hC D=>⟨λ_=>Sx.dc (T:=λv w1=>∃t:aB,v=t.v∧bQ 5000 w1 t∧t.key=H1.key.now) J [(81,.q bh 0)] ⟨D.1 I,G⟩ ((sW ((S.bx 3).ext hC) aa (Ü ((Ü Q5 (Ip GV ag))) hC)).mono λe w2 ⟨m,h1,h2,h3,h4,h5,h6⟩=>⟨_,h1,h6,m,I,h3.up O O,h4⟩),λhn=>absurd (D.2.1 I) hn⟩,
  λρ u1 J ho hC D=>⟨λ_=>W9 ((ho 9 I).trans (S.s.ev I)) (((S.bx 2).ext hC).range 0 7 I),λhn=>absurd (D.1 I) hn⟩,
  λρ u1 J ho hC D=>⟨λ_=>Sx.dc (T:=Rel.is (.b true)) J [(82,ρ (.tmp 82)),(83,q.v)] ⟨I,D.2.1 I,G⟩ ((ahB (D.1 I) (al.1.below hC) O bd).mono λe w2 h=>⟨_,h.1,h.2,I⟩),λhn=>absurd (D.C I) hn⟩,
  λρ u1 J ho hC D=>⟨λ_=>Ø J [(84,.b true)] ⟨D.1 I,G⟩,λhn=>absurd (D.2.1 I) hn⟩,
  λρ u1 J ho hC D=>Ø J [(80,.z),(85,.z)] ⟨D.1 I,D.2.1 I,G⟩,G⟩ (λac u ap S=>?_) I
 refine ϱ S 9 λS=>ă S λS=>?_;obtain⟨d7,d8⟩:=step_ok (x:=⟨0,e⟩) h5 ⟨(show I64 0 by decide),he⟩;have di:=d7.up (by decide:20<=5000) O;refine O1 S 2 [] [.M 5 0] λS=>?_;have S:=S.fl;refine â S 0 I (rQ (P:=λ_=>True) (e:=e) wH G S.E (S.bx 0) (S.old 0) ar ej ((Ü cg ap)) (bU.below hg S.E) ((di.below S.E)) d8) ?_;rintro e u ⟨HA,cd,rfl,el,ci,cj,em,av,eo⟩;refine⟨_,_,I,em,av,eo,λS=>?_⟩;have a6:=È (Ip GV (Ip ag ap)) av (by have:=GV.size; omega);have bt:=È (Ip GV (Ip ag ap)) av (by have:=GV.size; omega);have a8:=È (Ip ag ap) av;refine À S ((cd)==0) (λbk S=>?_) λbk S=>?_
 .have S:=S.fl;refine â S 0 I (KQ S.E (S.bx 0) (S.old 0) ar ci cj) ?_;rintro e u ⟨HU,cd,rfl,gc,ep,et,ew,aw,ex⟩;refine⟨_,_,I,ew,aw,ex,λS=>?_⟩;have dj:=È a6 aw (by have:=GV.size; omega);have dk:=È bt aw (by have:=GV.size; omega);have dl:=È a8 aw;have S:=S.fl;refine â S 0 I (KQ S.E (S.bx 0) (S.old 0) ar ep et) ?_;rintro e u ⟨HV,cd,rfl,gd,ge,gf,ey,ax,ez⟩;refine⟨_,_,I,ey,ax,ez,λS=>?_⟩;have bv:=È dj ax (by have:=GV.size; omega);have dm:=È dk ax (by have:=GV.size; omega);have dq:=È dl ax;refine ê S (qR (S.kV 3) aa ((Ü Q5 bv)) (bU.below hg S.E)) ?_;rintro e u ⟨vc,rfl,ah,ay⟩;have am:=KR ah;refine⟨_,I,ay,λS=>?_⟩;have al:=æ ((Ü a5 (Ip dm ay)));have a9:=æ ((Ü aq (Ip dq ay)));have bb:=æ am;have S:=S.fl;refine WZ S f5 30 λS iz=>?_;have S:=S.sub [(8,.q bh 0),(9,.q af 0),(13,vb),(19,vc)];refine OD S 15 [Rel.is (vc),Rel.is (.string ⟨H1.key.bytes.toArray⟩),Rel.is (vb),Rel.is (.string ⟨H1.key.bytes.toArray⟩),Rel.is (.b true),Rel.is (.b true),Rel.is (.q bh 0),(λv w1=>∃t:aB,v=t.v∧bQ 5000 w1 t∧t.key=H1.key.now),Rel.is (q.v),Rel.is (.b true),Rel.is (.b true),Rel.is (.b true),Rel.is (.b true),Rel.is (.b true),Rel.is (.b true)] 14 6 (.b true) ⟨aA _,aA _,aA _,aA _,aA _,aA _,aA _,λ_ _ _ k h=>by obtain⟨t,e,h1,h2⟩:=h; exact⟨t,e,h1.below k,h2⟩,aA _,aA _,aA _,aA _,aA _,aA _,aA _,G⟩ ⟨λρ u1 J ho hC D=>Ø J [(19,vc)] ⟨(ho 19 I).trans (S.s.ev I),G⟩,
   λρ u1 J ho hC D=>ajv (x:=110) (D.1 I) (dP (aG.below bb hC)),
   λρ u1 J ho hC D=>Ø J [(13,vb)] ⟨(ho 13 I).trans (S.s.ev I),G⟩,
   λρ u1 J ho hC D=>ajv (x:=112) (D.1 I) (dP (aG.below a9 hC)),
   λρ u1 J ho hC D=>aqf (D.1 I) (D.2.1 I) Y,
   λρ u1 J ho hC D=>Ø J [(114,.b true)] ⟨D.1 I,G⟩,
   λρ u1 J ho hC D=>⟨λ_=>Ø J [(8,.q bh 0)] ⟨(ho 8 I).trans (S.s.ev I),G⟩,λhn=>absurd (D.1 I) hn⟩,
   λρ u1 J ho hC D=>⟨λ_=>Sx.dc (T:=λv w1=>∃t:aB,v=t.v∧bQ 5000 w1 t∧t.key=H1.key.now) J [(116,.q bh 0)] ⟨D.1 I,G⟩ ((sW ((S.bx 3).ext hC) aa (Ü ((Ü Q5 (Ip bv ay))) hC)).mono λe w2 ⟨m,h1,h2,h3,h4,h5,h6⟩=>⟨_,h1,h6,m,I,h3.up O O,h4⟩),λhn=>absurd (D.2.1 I) hn⟩,
   λρ u1 J ho hC D=>⟨λ_=>W9 ((ho 9 I).trans (S.s.ev I)) (((S.bx 2).ext hC).range 0 7 I),λhn=>absurd (D.1 I) hn⟩,
   λρ u1 J ho hC D=>⟨λ_=>Sx.dc (T:=Rel.is (.b true)) J [(117,ρ (.tmp 117)),(118,q.v)] ⟨I,D.2.1 I,G⟩ ((ahB (D.1 I) (al.1.below hC) O bd).mono λe w2 h=>⟨_,h.1,h.2,I⟩),λhn=>absurd (D.C I) hn⟩,
   λρ u1 J ho hC D=>Ø J [(115,.b true),(119,.b true)] ⟨D.1 I,D.2.1 I,G⟩,
   λρ u1 J ho hC D=>Ø J [(120,.b true)] ⟨D.1 I,G⟩,
   λρ u1 J ho hC D=>⟨λ_=>Sx.dc (T:=Rel.is (.b true)) J [] trivial ((zy (P:=λ_=>True) wH (λ_ _=>G) (bU.below hg (Ip S.E hC))).mono λe w2 h=>⟨_,h.1,h.2,I⟩),λhn=>absurd (D.1 I) hn⟩,
   λρ u1 J ho hC D=>Ø J [(121,.b true),(122,.b true)] ⟨D.1 I,D.2.1 I,G⟩,
   λρ u1 J ho hC D=>Ø J [(123,.b true)] ⟨D.1 I,G⟩,G⟩ (λac u fb S=>?_) I
  refine ϱ S 15 λS=>Xe S (.b true) λS=>?_;exact⟨I,S.E⟩
 have dr:HA.key=H1.key:=(HK.ahH el bk).trans ek;refine ê S (qR (S.kV 0) ci cj (bU.below hg S.E)) ?_;rintro e u ⟨vc,rfl,ah,ai⟩;rw[dr]at ah;have am:=KR ah;refine⟨_,I,ai,λS=>?_⟩;refine O1 S 6 [] [] λS=>Sx.zl0 S λS=>Sx.atO S (src:=53) (dst:=9) (e:=5) (v:=vc) (d:=101) (bs:=H1.key.bytes) (dP (æ am)) λ{ac} S=>ÿ S λS=>O1 S 1 [] [] λS=>Sx.zl0 S λS=>Sx.atO S (src:=53) (dst:=9) (e:=5) (v:=vb) (d:=103) (bs:=H1.key.bytes) (dP (æ ((Ü aq (Ip a8 ai))))) λ{ac} S=>ÿ S λS=>O1 S 1 [] [.cmp .neq 9 (.tmp 101) (.tmp 103) (.string ⟨H1.key.bytes.toArray⟩) (.string ⟨H1.key.bytes.toArray⟩) (.z)] (hk:=⟨(Sx.ahE Y),G⟩) λS=>ă S λS=>ê S (qR (S.kV 3) aa ((Ü Q5 (Ip a6 ai))) (bU.below hg S.E)) ?_;rintro e u ⟨vc,rfl,ah,az⟩;have am:=KR ah;refine⟨_,I,az,λS=>?_⟩;have al:=æ ((Ü a5 (Ip bt (Ip ai az))));have a9:=æ ((Ü aq (Ip a8 (Ip ai az))));have bb:=æ am;have S:=S.fl;refine WZ S f5 30 λS iz=>?_;have S:=S.sub [(8,.q bh 0),(9,.q af 0),(13,vb),(19,vc)];refine OD S 15 [Rel.is (vc),Rel.is (.string ⟨H1.key.bytes.toArray⟩),Rel.is (vb),Rel.is (.string ⟨H1.key.bytes.toArray⟩),Rel.is (.b true),Rel.is (.b true),Rel.is (.q bh 0),(λv w1=>∃t:aB,v=t.v∧bQ 5000 w1 t∧t.key=H1.key.now),Rel.is (q.v),Rel.is (.b true),Rel.is (.b true),Rel.is (.b true),Rel.is (.b true),Rel.is (.b true),Rel.is (.b true)] 14 6 (.b true) ⟨aA _,aA _,aA _,aA _,aA _,aA _,aA _,λ_ _ _ k h=>by obtain⟨t,e,h1,h2⟩:=h; exact⟨t,e,h1.below k,h2⟩,aA _,aA _,aA _,aA _,aA _,aA _,aA _,G⟩ ⟨λρ u1 J ho hC D=>Ø J [(19,vc)] ⟨(ho 19 I).trans (S.s.ev I),G⟩,
  λρ u1 J ho hC D=>ajv (x:=110) (D.1 I) (dP (aG.below bb hC)),
  λρ u1 J ho hC D=>Ø J [(13,vb)] ⟨(ho 13 I).trans (S.s.ev I),G⟩,
  λρ u1 J ho hC D=>ajv (x:=112) (D.1 I) (dP (aG.below a9 hC)),
  λρ u1 J ho hC D=>aqf (D.1 I) (D.2.1 I) Y,
  λρ u1 J ho hC D=>Ø J [(114,.b true)] ⟨D.1 I,G⟩,
  λρ u1 J ho hC D=>⟨λ_=>Ø J [(8,.q bh 0)] ⟨(ho 8 I).trans (S.s.ev I),G⟩,λhn=>absurd (D.1 I) hn⟩,
  λρ u1 J ho hC D=>⟨λ_=>Sx.dc (T:=λv w1=>∃t:aB,v=t.v∧bQ 5000 w1 t∧t.key=H1.key.now) J [(116,.q bh 0)] ⟨D.1 I,G⟩ ((sW ((S.bx 3).ext hC) aa (Ü ((Ü Q5 (Ip a6 (Ip ai az)))) hC)).mono λe w2 ⟨m,h1,h2,h3,h4,h5,h6⟩=>⟨_,h1,h6,m,I,h3.up O O,h4⟩),λhn=>absurd (D.2.1 I) hn⟩,
  λρ u1 J ho hC D=>⟨λ_=>W9 ((ho 9 I).trans (S.s.ev I)) (((S.bx 2).ext hC).range 0 7 I),λhn=>absurd (D.1 I) hn⟩,
  λρ u1 J ho hC D=>⟨λ_=>Sx.dc (T:=Rel.is (.b true)) J [(117,ρ (.tmp 117)),(118,q.v)] ⟨I,D.2.1 I,G⟩ ((ahB (D.1 I) (al.1.below hC) O bd).mono λe w2 h=>⟨_,h.1,h.2,I⟩),λhn=>absurd (D.C I) hn⟩,
  λρ u1 J ho hC D=>Ø J [(115,.b true),(119,.b true)] ⟨D.1 I,D.2.1 I,G⟩,
  λρ u1 J ho hC D=>Ø J [(120,.b true)] ⟨D.1 I,G⟩,
  λρ u1 J ho hC D=>⟨λ_=>Sx.dc (T:=Rel.is (.b true)) J [] trivial ((zy (P:=λ_=>True) wH (λ_ _=>G) (bU.below hg (Ip S.E hC))).mono λe w2 h=>⟨_,h.1,h.2,I⟩),λhn=>absurd (D.1 I) hn⟩,
  λρ u1 J ho hC D=>Ø J [(121,.b true),(122,.b true)] ⟨D.1 I,D.2.1 I,G⟩,
  λρ u1 J ho hC D=>Ø J [(123,.b true)] ⟨D.1 I,G⟩,G⟩ (λac u fc S=>?_) I
 refine ϱ S 15 λS=>Xe S (.b true) λS=>?_;exact⟨I,S.E⟩
