/- Reference 37: Clone. Scenes that are clones. Writing -/
import Derived.Test.YtfmkkemfhjkajaaGreatDoorRfA
import Derived.Test.YtfmkkemfhjkajaaGreatDoorCln36c
set_option linter.unusedVariables false
namespace Go.Proofs.YtfmkkemfhjkajaaGreatDoor
section
open Go.RowKit
variable{α:Type}{K:Nat}
set_option maxRecDepth 100000 in
set_option maxHeartbeats 3200000 in
theorem Dz{w:World}{s:aK}(h:bU K w s)(hlim:∀n∈s.ns,n.lim)(hn:s.ns.length≤100000) :
  Calls Tryz.prog 27 #[s.v] w fun e w'=>∃m:aK,e = .returned m.v∧m.own w.heap.size w'∧m.ns.map aj.strip=s.ns.map aj.strip∧m.w=s.w∧m.h=s.h∧m.bg=s.bg∧Ext w w':=by
 have hmax:s.ns.length≤9223372036854775807:=by omega
 refine akN Tryz.func27 Tryz.ntmps27 (fun ac S=>?_);obtain⟨a,cap,es⟩:∃a c,s.s = .slice a s.ns.length c:=⟨_,_,rfl⟩;have hr:=h.2.2.1;rw[es]at hr;refine akJ fun _ aS=>akK S 1 s.cells fun ac u b2 E3 hb4 S=>akK S 2 [.i 0,.i 0,.int .u8 0,.int .u8 0,.int .u8 0,.int .u8 0,.slice none 0 0] fun ac u b5 E6 hb7 S=>akI<|aS _ _<|akJ (fun _ dP=>?_);have R:=amo S;refine Sx.newRow S R 5 0 43 47 [] fun ac u v9 zZ QN R S=>adr S 1 [] [(3,v9)] fun S=>akI<|dP _ _<|ak6 fun _ cO=>akJ fun _ gu=>adr S 1 [] [(4,.i 0)] fun S=>akI<|gu _ _<|ak8 ?_;refine alC (ι:=Nat×Value×List aj) (fun p a' w'=>p.1≤s.ns.length∧(p.2.2.map aj.strip=(s.ns.take p.1).map aj.strip)∧Sx.Rw w w' [(b5,[.i 0,.i 0,.int .u8 0,.int .u8 0,.int .u8 0,.int .u8 0,.slice none 0 0]),(b2,s.cells)] [⟨43,47,p.2.1,p.1,p.2.2.flatMap aj.cells⟩]∧Sx.Ow w.heap.size (Sx.Ob [(b5,[.i 0,.i 0,.int .u8 0,.int .u8 0,.int .u8 0,.int .u8 0,.slice none 0 0]),(b2,s.cells)] [⟨43,47,p.2.1,p.1,p.2.2.flatMap aj.cells⟩]) (fun W=>∀z∈p.2.2,z.pO w.heap.size W) w'∧Sx.St w a' w' 30 [(0,s.v),(1,.pointer (some ⟨b2,0,none⟩)),(2,.pointer (some ⟨b5,0,none⟩)),(3,p.2.1),(4,.i p.1)] [(b5,[.i 0,.i 0,.int .u8 0,.int .u8 0,.int .u8 0,.int .u8 0,.slice none 0 0]),(b2,s.cells)] []) (fun p=>s.ns.length-p.1) (0,v9,[]) ⟨alg _,rfl,R,(fun _ _ _ z hz=>by cases hz),S.sn⟩ ?_;rintro⟨k,v,M⟩ ac u hI;try dsimp only at hI
 obtain⟨hk,hR,R,su,S⟩:=hI;refine ak6 fun _ fH=>akJ fun _ fJ=>adr S 5 [.mem 1 6,.re 8 s.s (.slice a s.ns.length cap)] [(10,.bool ((k:Int)<(s.ns.length:Int)))] (hk:=⟨es,trivial⟩) fun S=>akI (fJ _ _ ?_);refine akL S (fun hc16=>?_) (fun hc16=>?_)
 ·refine ak7<|fH _ _<|ak6 fun _ gJ=>ak8 ?_;have q18:=S.E.size;have q19:=R.lt;refine alc ?_;have tX:k<s.ns.length:=by have:=alj hc16; omega
  obtain⟨b20,o21,rfl,KF,hx24,Ir,Rx⟩:=als hr (fun _=>rfl) (k) tX;have S:=S.view0 Ir Rx;refine adr S 6 [.mem 1 6,.re 15 s.s (.slice (some ⟨b20,o21,none⟩) s.ns.length cap),.idx k s.ns.length,.mem 2 0] [(13,v),(18,KF.v)] (hk:=⟨es,tX,trivial⟩) fun S=>akS S (some 19) (CV ((h.2.2.2 _ (hx24▸aly tX)).1.below S.E) (hlim _ (hx24▸aly tX))) ?_;rintro e u ⟨m,rfl,hm,hms,Ze⟩;refine⟨_,rfl,Ze,fun ac S=>?_⟩;obtain⟨R,Y29⟩:=R.dN S (alI Ze);have G30:=alK (Sx.dW.ow hm q18 q19) fun _ h=>vP h q18;refine ak5 S 20 1 m.cells (fun ac u b31 E32 aeD S=>?_);have hM:M.length=k:=by have:=alb List.length hR; simp at this; omega
  obtain⟨R,Y34⟩:=R.dN S (amq E32 aeD);refine Sx.app S R 0 21 rfl vO (Sx.BK (m:=1) (k:=47) (A:=m.cells) (S.bx 0)) (by show k+1≤9223372036854775807; omega) (by show(k+1)*656≤140737488355328; omega) fun ac u v35 X36 R S=>adr S 1 [] [(3,v35)] fun S=>akI<|gJ _ _<|alc<|adr S 3 [.re 12 (.i (IntKind.i64.wrap ((k:Int)+1))) (.i (k+1:Nat))] [(4,.i (k+1:Nat))] (hk:=⟨akV (by omega),trivial⟩) fun S=>akI ?_;have S:=S.sJ 1;obtain⟨R,Y37⟩:=R.dN S (Sx.Stp.CU 1);show ∃i',_∧_;exact⟨((k+1),v35,M++[m]),⟨by omega,(Dw tX hx24 hR hms),R.as (alb (fun xs=>[(⟨43,47,v35,k+1,xs⟩:Sx.Row)]) (show M.flatMap aj.cells++m.cells=(M++[m]).flatMap aj.cells by simp)),alK (alG (alx su (alh Y29 (alh Y34 (alh X36 Y37)))) (alx G30 (alh Y34 (alh X36 Y37)))) fun _ h=>qR h.1 h.2,S.sn⟩,by show _-_<_-_; omega⟩
 refine alk<|cO _ _<|akJ (fun _ iW=>?_);have hk:=alo hc16;obtain rfl:k=s.ns.length:=by omega
 rw[al5]at hR;have hM:M.length=s.ns.length:=by have:=alb List.length hR; simpa using this
 rw[←hM]at R;obtain⟨a1,c1,e1⟩:=Sx.kX (R.own _ alB);replace e1:v = .slice a1 M.length c1:=e1;subst e1;refine adr S 8 [.mem 1 0,.mem 1 1,.mem 1 2] [(29,.agg (Sx.L [.i s.w,.i s.h]++s.bg.cells++Sx.L [.slice a1 M.length c1]).toArray)] fun S=>akO S 0 (off:=0) (cs:=(Sx.L [.i s.w,.i s.h]++s.bg.cells++Sx.L [.slice a1 M.length c1])) rfl fun u C39 S=>akI<|iW _ _<|ala ?_;obtain⟨R,Y40⟩:=R.dN S (Sx.Stp.Jg C39 (by simp[Sx.vb]));have hF:=(alx su Y40);have ho:=R.own _ alB;exact Sx.KJ S 0 Tryz.results27 rfl (v := .agg (aK.cells ⟨s.w,s.h,s.bg,a1,c1,M⟩).toArray) ⟨⟨s.w,s.h,s.bg,a1,c1,M⟩,rfl,⟨ho,hF.mono fun i hi=>⟨hi.1,fun e=>hi.2 (Sx.jA alB e)⟩⟩,hR,rfl,rfl,rfl,S.E⟩
end
section
open Go.RowKit
variable{α:Type}{K:Nat}
theorem vT{w:World}{v:Value}{l:List aj}(h:jo K w v l):∀n∈l,n.G9 K:=fun n hn=>(h.2 n hn).2
theorem Ht{base:Nat}{w w':World}{s c:aK}(h:bU K w s)(hc:fV base c.s c.ns w')(hs:c.ns.map aj.strip=s.ns.map aj.strip)(hw:c.w=s.w)(hh:c.h=s.h):bU K w' c:=
 ⟨hw▸h.1,hh▸h.2.1,hc.ok (fits_all hs (vT h.2.2))⟩
theorem LV{s c:aK}(hs:c.ns.map aj.strip=s.ns.map aj.strip)(hw:c.w=s.w)(hh:c.h=s.h)(hb:c.bg=s.bg):c.key=s.key:=by
 unfold aK.key;rw[hw,hh,hb,vN hs]
theorem CB{base:Nat}{w w':World}{v:Value}{l:List aj}(h:fV base v l w)(hE:Ext w w'):fV base v l w':=amZ h hE
theorem XZ{s:aK}(h:s.key.valid=true){x:aj}(hx:x∈s.ns):0≤x.depth∧x.depth<8:=by
 obtain⟨i,hi,rfl⟩:=List.getElem_of_mem hx;exact uO h hi
end
end Go.Proofs.YtfmkkemfhjkajaaGreatDoor
section
namespace Go.Sx
open Go.Proofs.YtfmkkemfhjkajaaGreatDoor Go.RowKit Go.Rel
theorem Ty.PX{kp:TypeId→Nat→Bool}{b0 base k n:Nat}{w w':World}{e:TypeId}{v:Value}(h:Ty e k b0 v n w)(hR:Rl kp base w w')(hn:0<n):∃g cap,v = .slice (some ⟨g,0,none⟩) n cap∧b0≤g∧g<w.heap.size∧∃cur,w'.heap[g]?=some (.cells cur e (0,0))∧n*k≤cur.size:=by
 rcases h with h | ⟨g,cap,cur,h1,h2,h3,h4⟩
 ·omega
 obtain⟨c,h5,h6,-⟩:=hR.obj g cur e h3;exact⟨g,cap,h1,h2,(oW h3).1,c,h5,by rw[h6]; exact h4⟩
variable{P:Program}{ops:Array Oper}{Q:Exit→Act→World→Prop}{w0 w:World}{a:Act}{os:List Oper}{n base:Nat}{l:List (Nat×Value)}{bl:List (Nat×List Value)}{vs:List gX}
theorem Ed(S:St w0 a w n l bl vs)(kp:TypeId→Nat→Bool){g off:Nat}{e:TypeId}{cur:Array Value}{v:Value}(hT:w.heap[g]?=some (.cells cur e (0,0)))(hf:off<cur.size)(hw:w0.heap.size≤g)(hne:∀p∈bl,p.1≠g)(hk:kp e off=false)
  (next:∀w',Rl kp w0.heap.size w w'→Ch g w w'→St w0 a w' n l bl []→wpList P ops Q (os.drop 1) a w')
  (hx:vJ P os l=some (g,off,v,1):=by kernel_rfl) (h1:v.cells = #[v]:=by kernel_rfl) (h1':v.oneCell'=true:=by kernel_rfl):wpList P ops Q os a w:=by
 obtain⟨o,os',ty,x,y,rfl,hg,hdst,hop,hxx,hyy,hi⟩:=og hx;have hst:=jH (dG S.s) o;have ex:a.eval x = .pointer (some ⟨g,off,none⟩):=ig (Std.act a) (hst x (by rw[hop]; simp[Op.operands])) (p:=[]) rfl hxx;have ey:a.eval y=v:=ig (Std.act a) (hst y (by rw[hop]; simp[Op.operands])) (p:=[]) rfl hyy;have hrun:=FV (P:=P) (A:=cur.toList) hop ex ey (by simpa using oW hT) hi (by simpa using hf) h1 h1';unfold wpList;rw[ale (by simp[Region.wanted,hg])];left;unfold Oper.wp;rw[hrun];simp only[Oper.upon];rw[hdst];exact next _ (Rl.set (cs:=[v]) hT hw (by simp; omega) fun j hj=>by
  obtain rfl:j=0:=by simpa using hj
  exact hk) ((Ch.refl g w).setCells [v] off) (S.afU hT hw hne)
end Go.Sx
namespace Go.Proofs.YtfmkkemfhjkajaaGreatDoor
open Go.RowKit
variable{α:Type}{K:Nat}
def QE(e:TypeId)(i:Nat):Bool:=e==43 && !(i%47==0)
theorem Ee{i q:Nat}(h:q<1):QE 43 (i*47+33+q)=true:=by
 have:(i*47+33+q)%47=33:=by omega
 simp[QE,this]
end Go.Proofs.YtfmkkemfhjkajaaGreatDoor
end
namespace Go.Proofs.YtfmkkemfhjkajaaGreatDoor
section
open Go.RowKit
variable{α:Type}{K base:Nat}{w w':World}{e0:TypeId}
def Odd(e0:TypeId):Prop:=194≠e0∧155≠e0∧122≠e0∧99≠e0∧62≠e0∧3≠e0∧43≠e0
instance:Decidable (Odd e0):=by unfold Odd; infer_instance
open Go.Sx Go.Rel in
end
section
open Go.RowKit
variable{α:Type}{K:Nat}
theorem aeQ{w:World}{s:aK}{n:Int}(h:s.few n=true)(ho:s.ok w):bU 20 w s∧(∀n∈s.ns,n.lim)∧(s.ns.length:Int)≤n:=PW h ho.1 ho.2.1 ho.2.2
end
section
open Go.RowKit
variable{α:Type}{K:Nat}
def ebg(p:dF):bf:=⟨5,0,0,0,l7,p⟩
theorem aeR(w:World)(p:dF):wU 20 w (ebg p):=⟨show I64 5 by decide,show I64 0 by decide,show I64 0 by decide,show I64 0 by decide,oM w (by decide) (by decide)⟩
theorem aaU(s:aN)(p:dF):jw s (ebg p).key=if s.valid=true then (⟨s.w,s.h,p,s.ns⟩,0)else (.zero,18):=by
 have hn:(ebg p).key.named=true:=by
  unfold gI.named;rw[show(ebg p).key=⟨5,0,0,0,aI.zero,p⟩from rfl];simp
 have hk:lG s.ns (ebg p).key = .ok s.ns:=rfl;have hw:s.with' (ebg p).key s.ns=⟨s.w,s.h,p,s.ns⟩:=rfl;unfold jw;rw[hn,hk];simp only[hw];by_cases h:s.valid=true
 ·rw[ak9 (by simp[h]),ak9 (by simp),ale h];have:(⟨s.w,s.h,p,s.ns⟩:aN).chk.1=0:=by unfold aN.valid at h; exact by simpa[aN.chk]using h
  rw[ale this]
 rw[ale (by simpa using h),ak9 h]
theorem Hu{k a b:aN}{v:Bool}{code:Int}(h:(k,code)=if v=true then (a,0)else (b,18)):(v=true∧k=a∧code=0)∨(v=false∧code=18):=by
 cases v
 ·rw[ak9 (by simp)]at h;exact .inr ⟨rfl,alb Prod.snd h⟩
 rw[ale rfl]at h;exact .inl ⟨rfl,alb Prod.fst h,alb Prod.snd h⟩
theorem acw{l m:List aj}(h:keys l=keys m){k:Nat}(hk:k<l.length)(hk':k<m.length){x y:aj}(hx:l[k]=x)(hy:m[k]=y):x.key=y.key:=by
 have:=alb (fun z=>z[k]?) h;simpa[keys,hk,hk',hx,hy]using this
set_option maxRecDepth 100000 in
set_option maxHeartbeats 3200000 in
theorem FY{w:World}{s:aK}{pc:dF}(h:s.ok w)(hpc:True)(hg:jL w) :
  Calls Tryz.prog 6 #[s.v,.agg pc.cells.toArray] w fun r w'=>r = .returned (.bool true)∧Ext w w':=by
 skip;refine akN Tryz.func6 Tryz.ntmps6 fun ac S=>akJ fun _ aS=>akK S 2 s.cells fun ac u b2 E3 hb4 S=>akK S 3 pc.cells fun ac u b5 E6 hb7 S=>adr S 1 [] [(4,.bool false)] fun S=>akI<|aS _ _<|ak6 fun _ dP=>akJ fun _ iq=>adr S 1 [.mem 1 0] [(12,s.v)] fun S=>akQ S 13 (JK ⟨(h.2.2.1.below S.E),fun n hn=>(h.2.2.2 n hn).below S.E⟩ 20) fun ac u zZ S=>adr S 1 [] [(14,.bool (!(s.few 20)))] fun S=>akI (iq _ _ ?_);refine akL S (fun fU=>?_) (fun fU=>?_)
 ·refine akJ fun _ cO=>akQ S 15 (jG (hg.below S.E)) fun ac u DN S=>adr S 1 [] [(4,.bool true)] fun S=>akI<|cO _ _<|akM S Tryz.results6 ?_;exact⟨rfl,S.E⟩
 refine ak7<|dP _ _<|akJ (fun _ fH=>?_);have hcc:s.few 20=true:=by simpa using fU
 have hs:=aeQ hcc h;refine adr S 1 [.mem 1 0] [(16,s.v)] (fun S=>?_);have zc0:=(S.bx 0).1;have zc1:=(S.bx 1).1;have yc:=S.E.size;obtain⟨uc,hu⟩:∃z:World,z=u:=⟨_,rfl⟩;subst hu;refine akS S (some 17) (Dy (K:=20) (hs.1.below S.E) hs.2.1 (by have:=hs.2.2; omega)) ?_;rintro e u ⟨c,rfl,oc,cs,cw,ch,cb,NQ⟩;have hc:=oc.cp;have hT:=alR hc;refine⟨_,rfl,NQ,fun ac S=>?_⟩;obtain⟨u5,hu⟩:∃z:World,z=u:=⟨_,rfl⟩;subst hu;have y5:=S.E.size;refine akK S 5 [.i 0,.i 0,.int .u8 0,.int .u8 0,.int .u8 0,.int .u8 0,.slice none 0 0] fun ac u b16 EM SQ S=>akO S 0 (off:=0) (cs:=c.cells) rfl (fun u QD S=>?_);have zk:=akR EM QD (by omega);have BA:=akR EM QD (by omega);refine akI<|fH _ _<|akJ fun _ jJ=>adr S 1 [.mem 2 0] [(18,s.v)] (fun S=>?_);have v5:=((Sx.Rl.ext' (Sx.Rl.refl (kp:=QE) (base:=w.heap.size) (w:=u5)) BA (by omega))).bel.size;have zd0:=(S.bx 0).1;have zd1:=(S.bx 1).1;have yd:=S.E.size;obtain⟨ud,hu⟩:∃z:World,z=u:=⟨_,rfl⟩;subst hu;refine akS S (some 19) (Dz (K:=20) (hs.1.below S.E) hs.2.1 (by have:=hs.2.2; omega)) ?_;rintro e u ⟨d,rfl,od,ds,dw,dh,db,CQ⟩;have hd:=od.cp;refine⟨_,rfl,CQ,fun ac S=>?_⟩;have v6:=((Sx.Rl.ext' (Sx.Rl.refl (kp:=QE) (base:=w.heap.size) (w:=u5)) (Ext.trans' BA CQ) (by omega))).bel.size;refine akK S 6 [.i 0,.i 0,.int .u8 0,.int .u8 0,.int .u8 0,.int .u8 0,.slice none 0 0] fun ac u b24 QB af9 S=>akO S 0 (off:=0) (cs:=d.cells) rfl (fun u WB S=>?_);have Ze:=akR (Ext.trans' zk (Ext.trans' CQ QB)) WB (by have:=(Ext.trans' zk CQ).size; omega);have Bz:=akR (Ext.trans' BA (Ext.trans' CQ QB)) WB (by have:=(Ext.trans' BA CQ).size; omega);have E30:=akR QB WB (by omega);refine akI<|jJ _ _<|ak6 fun _ oL=>akJ fun _ kP=>adr S 2 [.mem 1 0,.mem 3 0] [(20,c.v),(21,s.v)] fun S=>akQ S 22 (jT (PY (K:=20) (s:=c) (t:=s) (Ht hs.1 (CB hc Ze) cs cw ch) (hs.1.below S.E)) (show Value.bool (c.key=s.key) = .bool true by rw[LV cs cw ch cb]; simp)) fun ac u E33 S=>adr S 1 [] [(23,.bool false)] fun S=>akI<|kP _ _<|ak1 S<|ak7<|oL _ _<|ak6 fun _ tJ=>akJ fun _ lY=>adr S 1 [] [(7,.i 0)] fun S=>akI<|lY _ _<|ak8 ?_;refine alC (ι:=Nat) (fun p a' w'=>p≤c.ns.length∧(Sx.Rl QE w.heap.size u5 w'∧fV ud.heap.size d.s d.ns w')∧Sx.St w a' w' 114 [(0,s.v),(1,.agg pc.cells.toArray),(2,.pointer (some ⟨b2,0,none⟩)),(3,.pointer (some ⟨b5,0,none⟩)),(4,.bool false),(5,.pointer (some ⟨b16,0,none⟩)),(6,.pointer (some ⟨b24,0,none⟩)),(7,.i p)] [(b24,d.cells),(b16,c.cells),(b5,pc.cells),(b2,s.cells)] []) (fun p=>c.ns.length-p) (0) ⟨alg _,⟨(Sx.Rl.ext' (Sx.Rl.refl (kp:=QE) (base:=w.heap.size) (w:=u5)) (Ext.trans' Bz E33) (by omega)),(CB hd (Ext.trans' E30 E33))⟩,S.sn⟩ ?_;rintro k ac u hI;try dsimp only at hI
 obtain⟨hk,hR,S⟩:=hI;refine ak6 fun _ lZ=>akJ fun _ oH=>adr S 5 [.mem 1 6] [(28,.bool ((k:Int)<(c.ns.length:Int)))] fun S=>akI (oH _ _ ?_);refine akL S (fun hc38=>?_) (fun hc38=>?_)
 ·refine ak7<|lZ _ _<|ak6 fun _ qB=>ak8<|akJ (fun _ wO=>?_);have hmx:c.ns.length≤9223372036854775807:=hT.1.1.len;have TW:k<c.ns.length:=by have:=alj hc38; omega
  obtain⟨g42,p42,aiw,afS,aki,r42,aix,akj⟩:=Sx.Ty.PX (hT.1.2) (hR.1) (by omega);refine adr S 5 [.mem 1 6,.re 32 c.s (.slice (some ⟨g42,0,none⟩) c.ns.length p42),.idx k c.ns.length] [(35,.pointer (some ⟨g42,0+k*47,none⟩))] (hk:=⟨aiw,TW,trivial⟩) fun S=>Sx.Ed S QE (off:=0+k*47) (v := .i (-9)) aix (by omega) (by omega) (by simp; omega) (by simp[QE]) (fun u X43 C44 S=>?_);have aiy:=(hR.1).trans X43;have aiz:=dW.ch hR.2 C44 (by omega);refine akI<|wO _ _<|akJ fun _ yJ=>adr S 1 [] [(8,.i 0)] fun S=>akI<|yJ _ _<|ak8 ?_;refine alC (ι:=Nat) (fun p a' w'=>p≤c.ns[k].path.length∧(Sx.Rl QE w.heap.size u5 w'∧fV ud.heap.size d.s d.ns w')∧Sx.St w a' w' 114 [(0,s.v),(1,.agg pc.cells.toArray),(2,.pointer (some ⟨b2,0,none⟩)),(3,.pointer (some ⟨b5,0,none⟩)),(4,.bool false),(5,.pointer (some ⟨b16,0,none⟩)),(6,.pointer (some ⟨b24,0,none⟩)),(7,.i k),(8,.i p)] [(b24,d.cells),(b16,c.cells),(b5,pc.cells),(b2,s.cells)] []) (fun p=>c.ns[k].path.length-p) (0) ⟨alg _,⟨aiy,aiz⟩,S.sn⟩ ?_;rintro j ac u hI;try dsimp only at hI
  obtain⟨hk,hR,S⟩:=hI;refine ak6 fun _ wC=>akJ (fun _ wE=>?_);obtain⟨g50,p50,aga,akk,aiA,r50,akl,akm⟩:=Sx.Ty.PX (hT.1.2) (hR.1) (by omega);have aiB:=Sx.jv.now (hT.1.le (b0:=w.heap.size) (by omega)) (hR.1) TW 33 1 (cs:=[c.ns[k].ps]) (by show _+1≤47; decide) rfl (fun q hq=>Ee (by simpa using hq)) aga;have S:=S.view (alH aiA (hR.1).bel.size) aiB (by simp; omega);refine adr S 9 [.mem 1 6,.re 38 c.s (.slice (some ⟨g50,0,none⟩) c.ns.length p50),.idx k c.ns.length,.mem 4 0] [(44,.bool ((j:Int)<((c.ns[k].path.length:Nat):Int)))] (hk:=⟨aga,TW,trivial⟩) fun S=>akI (wE _ _ ?_);refine akL S (fun wF=>?_) (fun wF=>?_)
  ·refine ak7<|wC _ _<|ak6 fun _ J9=>ak8 ?_;have hmj:c.ns[k].path.length≤9223372036854775807:=(hT.2 _ (aly TW)).1.2.2.2.2.2.2.2.1.1.len;have aiC:j<c.ns[k].path.length:=by have:=alj wF; omega
   obtain⟨g55,p55,agb,Zf,aiD,r55,akn,ako⟩:=Sx.Ty.PX (hT.1.2) (hR.1) (by omega);have aiE:=Sx.jv.now (hT.1.le (b0:=w.heap.size) (by omega)) (hR.1) TW 33 1 (cs:=[c.ns[k].ps]) (by show _+1≤47; decide) rfl (fun q hq=>Ee (by simpa using hq)) agb;have S:=S.view (alH aiD (hR.1).bel.size) aiE (by simp; omega);obtain⟨g57,p57,aiF,akp,akq,r57,aiG,akr⟩:=Sx.Ty.PX ((hT.2 _ (aly TW)).2.2.2.1) (hR.1) (by omega);refine alc<|adr S 9 [.mem 1 6,.re 48 c.s (.slice (some ⟨g55,0,none⟩) c.ns.length p55),.idx k c.ns.length,.mem 4 0,.re 52 (c.ns[k].ps) (.slice (some ⟨g57,0,none⟩) (c.ns[k].path.length) p57),.idx j c.ns[k].path.length] [(55,.pointer (some ⟨g57,0+j*7,none⟩))] (hk:=⟨agb,TW,aiF,aiC,trivial⟩) fun S=>Sx.Ed S QE (off:=0+j*7) (v := .i (-9)) aiG (by omega) (by omega) (by simp; omega) rfl (fun u X58 C59 S=>?_);have aiH:=(hR.1).trans X58;have aiI:=dW.ch hR.2 C59 (by omega);refine akI<|J9 _ _<|alc<|adr S 3 [.re 46 (.i (IntKind.i64.wrap ((j:Int)+1))) (.i (j+1:Nat))] [(8,.i (j+1:Nat))] (hk:=⟨akV (by omega),trivial⟩) fun S=>akI ?_;show ∃i',_∧_;exact⟨(j+1),⟨by omega,⟨aiH,aiI⟩,S.sn⟩,by show _-_<_-_; omega⟩
  refine alk<|qB _ _<|alc<|adr S 3 [.re 30 (.i (IntKind.i64.wrap ((k:Int)+1))) (.i (k+1:Nat))] [(7,.i (k+1:Nat))] (hk:=⟨akV (by omega),trivial⟩) fun S=>akI ?_;show ∃i',_∧_;exact⟨(k+1),⟨by omega,⟨hR.1,hR.2⟩,S.sn⟩,by show _-_<_-_; omega⟩
 refine alk<|tJ _ _<|akJ fun _ Y1=>adr S 3 [.mem 3 0,.mem 2 0] [(57,s.v),(59,.agg (Sx.L [.i 5,.i 0,.i 0,.i 0,.i 0,.i 0,.i 0]++Sx.za++Sx.L [.slice none 0 0,.i 0,.int .u8 0,.i 0,.bool false,.bool false,.slice none 0 0,.i 0,.slice none 0 0,.i 0,.i 0,.i 0,.i 0,.slice none 0 0,.i 0,.slice none 0 0,.i 0,.i 0,.slice none 0 0,.i 0]++pc.cells).toArray)] fun S=>akS S (some 60) (CX (K:=20) (e:=ebg pc) (hs.1.below S.E) (hg.below S.E) (aeR _ pc) hs.2.1 (EY w)) ?_;rintro e u ⟨t,code,rfl,har,YP⟩;have hap:=har.1.trans (aaU s.key pc);refine⟨_,rfl,YP,fun ac S=>?_⟩;refine adr S 3 [] [(61,t.v),(62,.i code)] fun S=>akK S 9 [.i 0,.i 0,.int .u8 0,.int .u8 0,.int .u8 0,.int .u8 0,.slice none 0 0] fun ac u b64 QH ahl S=>akO S 0 (off:=0) (cs:=t.cells) rfl (fun u C67 S=>?_);have E68:=akR (Ext.trans' YP QH) C67 (by have:=YP.size; omega);have E69:=akR (Ext.trans' YP QH) C67 (by have:=YP.size; omega);have E70:=akR QH C67 (by omega);refine adr S 1 [] [(10,.i code)] fun S=>akI<|Y1 _ _<|ak6 fun _ J5=>akJ fun _ J7=>adr S 2 [.mem 4 0,.mem 1 0] [(63,s.v),(64,d.v)] fun S=>akQ S 65 (jT (DC (K:=20) (s:=s) (t:=d) (hs.1.below S.E) (Ht hs.1 (CB hR.2 E69) ds dw dh)) (show Value.bool (s.key=d.key) = .bool true by rw[LV ds dw dh db]; simp)) fun ac u E73 S=>adr S 5 [.mem 4 0] [(67,.bool false),(69,.bool ((code)==0)),(70,s.v)] fun S=>Sx.wW S (some 71) (pV (K:=20) (s:=s) (hs.1.below S.E) (hg.below S.E)) ?_;rintro e u ⟨rfl,E74⟩;refine⟨_,rfl,E74,fun ac S=>?_⟩;refine adr S 2 [] [(73,.bool (!(((code)==0)==s.key.valid)))] fun S=>akI (J7 _ _ ?_);refine akL S (fun agc=>?_) (fun agc=>?_)
 ·refine akJ fun _ adC=>adr S 1 [] [(4,.bool false)] fun S=>akI<|adC _ _<|ala ?_;rcases Hu hap with ⟨h1,-,h2⟩ | ⟨h1,h2⟩<;>simp[h1,h2]at agc
 refine ak7<|J5 _ _<|ak6 fun _ aeS=>akJ fun _ Y7=>adr S 2 [] [(75,.bool ((code) != 0))] fun S=>akI (Y7 _ _ ?_);refine akL S (fun aeT=>?_) (fun aeT=>?_)
 ·refine akJ fun _ aiJ=>akX S 6 [] [(_,_,((code)==18),.bool true)] [(4,.bool (((code)==18)&&true))] ⟨fun u hC g=>jG (hg.below (Ext.trans' S.E hC)),trivial⟩ fun ac u E81 S=>akI<|aiJ _ _<|ala ?_;have hc:code=18:=by rcases Hu hap with ⟨-,-,h2⟩ | ⟨-,h2⟩; simp[h2]at aeT; exact h2
  refine akP S Tryz.results6 ?_;exact⟨aB (by simp[hc]),S.E⟩
 refine ak7<|aeS _ _<|ak6 fun _ Et=>akJ (fun _ Wv=>?_);have hcz:code=0:=by simpa using aeT
 obtain⟨hv,hkt⟩:s.key.valid=true∧t.key=⟨s.w,s.h,pc,keys s.ns⟩:=by rcases Hu hap with ⟨h1,h2,-⟩ | ⟨-,h2⟩<;>first | exact⟨h1,h2⟩ | (exfalso; omega)
 have hbt:t.bg=pc:=alb aN.bg hkt;have hnt:keys t.ns=keys s.ns:=alb aN.ns hkt;have hlt:t.ns.length=s.ns.length:=by simpa using alb List.length hnt
 have ht:=(bU.below har.2.2.1 (Ext.trans' E70 (Ext.trans' E73 E74)));have E01:=S.E;have hg:=hg.below E01;have hs1:=hs.1.below E01;have agd:=(S.bx 3).1;have agf:=(S.bx 3).range 0 4 rfl;have hbx2:=(S.bx 4).1;have agh:=(S.bx 4).range 0 7 rfl;have agi:=(S.bx 0).1;have agj:=(S.bx 0).range 0 7 rfl;obtain⟨u1,hu1⟩:∃z:World,z=u:=⟨_,rfl⟩;subst hu1;have S:=S.re.sS;have S:=S.view0 agd agf;have S:=S.view0 hbx2 agh;have S:=S.view0 agi agj;obtain⟨a,cap,es⟩:∃a c,s.s = .slice a s.ns.length c:=⟨_,_,rfl⟩;have hr:=hs1.2.2.1;rw[es]at hr;obtain⟨d',cap',et⟩:∃a c,t.s = .slice a t.ns.length c:=⟨_,_,rfl⟩;have hr':=ht.2.2.1;rw[et]at hr';refine adr S 13 [.mem 0 2,.mem 2 0,.cmp .neq 23 (.tmp 82) (.tmp 83) (.agg #[.int .u8 (t.bg.r.toNat:Int),.int .u8 (t.bg.g.toNat:Int),.int .u8 (t.bg.b.toNat:Int),.int .u8 (t.bg.a.toNat:Int)]) (.agg #[.int .u8 (pc.r.toNat:Int),.int .u8 (pc.g.toNat:Int),.int .u8 (pc.b.toNat:Int),.int .u8 (pc.a.toNat:Int)]) (.bool (!decide (t.bg=pc))),.mem 0 6,.re 87 t.s (.slice d' t.ns.length cap'),.mem 1 6,.re 90 s.s (.slice a s.ns.length cap)] [(93,.bool ((!decide (t.bg=pc))||(((t.ns.length:Int)) != (s.ns.length:Int))))] (hk:=⟨(ak2 (fun _=>TY t.bg pc _) (by kernel_rfl)),et,es,trivial⟩) fun S=>akI (Wv _ _ ?_);refine akL S (fun Wp=>?_) (fun Wp=>?_)
 ·simp[hbt,hlt]at Wp
 refine ak7<|Et _ _<|ak6 fun _ QM=>akJ fun _ Y3=>adr S 1 [] [(11,.i 0)] fun S=>akI<|Y3 _ _<|ak8 ?_;refine alC (ι:=Nat) (fun p a' w'=>p≤s.ns.length∧(True)∧Sx.St u1 a' w' 114 [(0,s.v),(1,.agg pc.cells.toArray),(2,.pointer (some ⟨b2,0,none⟩)),(3,.pointer (some ⟨b5,0,none⟩)),(4,.bool false),(5,.pointer (some ⟨b16,0,none⟩)),(6,.pointer (some ⟨b24,0,none⟩)),(9,.pointer (some ⟨b64,0,none⟩)),(10,.i code),(11,.i p)] [] []) (fun p=>s.ns.length-p) (0) ⟨alg _,trivial,S.sn⟩ ?_;rintro k ac u hI;try dsimp only at hI
 obtain⟨hk,hR,S⟩:=hI;have S:=S.view0 agd agf;have S:=S.view0 hbx2 agh;have S:=S.view0 agi agj;refine ak6 fun _ abM=>akJ fun _ Y4=>adr S 5 [.mem 1 6,.re 96 s.s (.slice a s.ns.length cap)] [(98,.bool ((k:Int)<(s.ns.length:Int)))] (hk:=⟨es,trivial⟩) fun S=>akI (Y4 _ _ ?_);refine akL S (fun aeU=>?_) (fun aeU=>?_)
 ·refine ak7<|abM _ _<|ak6 fun _ adv=>ak8<|ak6 (fun _ adw=>?_);have acy:k<t.ns.length:=by have:=alj aeU; omega
  obtain⟨b93,o94,rfl,x99,agk,agl,aiK⟩:=als hr' (fun _=>rfl) (k) acy;have S:=S.view0 agl aiK;have VH:k<s.ns.length:=by have:=alj aeU; omega
  obtain⟨aiL,aiM,rfl,aiN,adf,agm,agn⟩:=als hr (fun _=>rfl) (k) VH;have S:=S.view0 agm agn;refine akU S 12 [.mem 2 6,.re 102 t.s (.slice (some ⟨b93,o94,none⟩) t.ns.length cap'),.idx k t.ns.length,.mem 1 0,.mem 3 6,.re 107 s.s (.slice (some ⟨aiL,aiM,none⟩) s.ns.length cap),.idx k s.ns.length,.mem 0 0] [(_,_,true,.bool true)] [(112,.bool false)] ⟨fun u hC g=>jT (LW ((ht.2.2.2 _ (agk▸aly acy)).below (Ext.trans' S.E hC)) ((hs1.2.2.2 _ (adf▸aly VH)).below (Ext.trans' S.E hC))) (show Value.bool (x99.key=aiN.key) = .bool true by rw[acw hnt acy VH agk adf]; simp),trivial⟩ (hk:=⟨et,acy,es,VH,trivial⟩) fun ac u E92 S=>akI<|adw _ _<|ak1 S<|ak7<|adv _ _<|alc<|adr S 3 [.re 100 (.i (IntKind.i64.wrap ((k:Int)+1))) (.i (k+1:Nat))] [(11,.i (k+1:Nat))] (hk:=⟨akV (by omega),trivial⟩) fun S=>akI ?_;show ∃i',_∧_;exact⟨(k+1),⟨by omega,trivial,S.sn⟩,by show _-_<_-_; omega⟩
 refine alk<|QM _ _<|akJ fun _ Zb=>akQ S 113 (jG (hg.below S.E)) fun ac u aks S=>adr S 1 [] [(4,.bool true)] fun S=>akI<|Zb _ _<|akM S Tryz.results6 ?_;exact⟨rfl,Ext.trans' E01 S.E⟩
end
end Go.Proofs.YtfmkkemfhjkajaaGreatDoor
