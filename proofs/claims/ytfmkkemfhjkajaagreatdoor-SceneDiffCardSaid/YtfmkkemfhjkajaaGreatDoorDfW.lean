/- Package scene: the shape of scenes, their trees, what is common. -/
import Derived.Test.YtfmkkemfhjkajaaGreatDoorPk41
set_option maxHeartbeats 1600000
set_option maxRecDepth 100000
namespace Go.Proofs.YtfmkkemfhjkajaaGreatDoor
open _root_.Go.Proofs.Tryz
open Go.RowKit
variable{α:Type}{K:Nat}
set_option linter.unusedVariables false
abbrev RU (l:List aj):List (Int×Int):=l.map fun n=>(n.id,n.depth)
theorem BH(l m:List aj):uM (keys l) (keys m)=decide (RU l=RU m):=by
 unfold uM;rw[apu,apu,aop,anO,anT]; rfl
theorem aeG{l m:List aj}(h:l.length≠m.length):false=uM (keys l) (keys m):=by
 have:RU l≠RU m:=fun e=>h (by simpa using anu List.length e);rw[BH]; simp[this]
theorem aao{l m:List aj}{k:Nat}(hk:l.length≤k)(h:l.length=m.length)(hR:(RU l).take k=(RU m).take k):true=uM (keys l) (keys m):=by
 rw[anW (by simpa using hk),anW (by simpa using (show m.length≤k by omega))]at hR;rw[BH]; simp[hR]
theorem aeH{l:List aj}{k:Nat}{x:aj}(h:k<l.length)(hx:l[k]=x):(RU l)[k]'(by simpa using h)=(x.id,x.depth):=by simp[hx]
theorem VP{l m:List aj}{k:Nat}(h1:k<l.length)(h2:k<m.length)(hR:(RU l).take k=(RU m).take k){x y:aj}(hx:l[k]=x)(hy:m[k]=y)(h:(((x.id) != y.id)||((x.depth) != y.depth))=false):(RU l).take (k+1)=(RU m).take (k+1):=by
 rw[an2 (by simpa using h1),an2 (by simpa using h2),hR,aeH h1 hx,aeH h2 hy];simp at h;rw[h.1,h.2]
theorem aeI{l m:List aj}{k:Nat}(h1:k<l.length)(h2:k<m.length){x y:aj}(hx:l[k]=x)(hy:m[k]=y)(h:(((x.id) != y.id)||((x.depth) != y.depth))=true):false=uM (keys l) (keys m):=by
 rw[BH];symm;rw[aoC];intro e;have:=anu (·[k]?) e;simp only[RU,List.getElem?_map,List.getElem?_eq_getElem h1,List.getElem?_eq_getElem h2,hx,hy,aoa,anx,anD]at this;simp[this]at h
structure dB where
 a:Option Addr
 l:List aj
def dB.v(t:dB):Value := .slice t.a t.l.length t.l.length
abbrev dB.key (t:dB):List aF:=keys t.l
theorem afr:iL prog 123 24 (.slice none 0 0) 1 24:=⟨underlying123,info_parts (by kernel_rfl),rfl,by decide⟩
abbrev wR (K:Nat)(w:World)(v:Value)(l:List dB):Prop:=aN 1 (fun t=>[t.v]) w v l∧∀t∈l,dK K w t.v t.l
theorem wR.below{w w':World}{v:Value}{l:List dB}(h:wR K w v l)(hb:Ext w w'):wR K w' v l:=⟨h.1.below hb,fun t ht=>(h.2 t ht).below hb⟩
structure Fa (K:Nat) (w:World) (L:List aj) (i:Nat) (ts:List dB):Prop where
 le:i≤L.length
 key:bZ (keys L)=ts.map dB.key++bZ ((keys L).drop i)
 flat:(ts.map dB.l).flatten=L.take i
 ok:∀t∈ts,dK K w t.v t.l
 len:ts.length≤i
 ne:∀t∈ts,0<t.l.length
theorem ady{β:Type}(p:β→Bool)(X:List β):X.take (X.takeWhile p).length=X.takeWhile p∧X.drop (X.takeWhile p).length=X.dropWhile p:=by
 have h:=List.takeWhile_append_dropWhile (p:=p) (l:=X);generalize X.takeWhile p=A at *;generalize X.dropWhile p=B at *;subst h;exact⟨List.take_left,List.drop_left⟩
theorem SY{l:List aF}{i:Nat}(hi:i<l.length):bZ (l.drop i)=((l.drop i).take (dR l i-i))::bZ (l.drop (dR l i)):=by
 have hd:l.drop i=l[i]::l.drop (i+1):=(apK hi).symm;have h1:=uN hi;have e:dR l i-i=((l.drop (i+1)).takeWhile fun κ=>decide (l[i].depth<κ.depth)).length+1:=by
  unfold dR; rw[qH hi]; omega
 obtain⟨t1,t2⟩:=ady (fun κ:aF=>decide (l[i].depth<κ.depth)) (l.drop (i+1));rw[show l.drop (dR l i)=(l.drop (i+1)).drop (dR l i-i-1) by rw[ao9]; congr 1; omega,e,Nat.add_sub_cancel,hd,S9,apE,t1,t2]
theorem L8{w:World}{a:Option Addr}{L:List aj}{c i j:Nat}(h:dK K w (.slice a L.length c) L)(hi:i≤j)(hj:j≤L.length):dK K w (.slice (Sx.uw a i j 47) (j-i) (j-i)) ((L.drop i).take (j-i)):=
 ⟨Sx.nK h.1 hi hj (anw j) (anN hj (Sx.jO h.1)),fun n hn=>h.2 n (apk (apF hn))⟩
theorem Fa.step{w:World}{a:Option Addr}{L:List aj}{c i:Nat}{ts:List dB}(h:dK K w (.slice a L.length c) L)(hT:Fa K w L i ts)(hi:i<L.length) :
  Fa K w L (dR (keys L) i) (ts++[⟨Sx.uw a i (dR (keys L) i) 47,(L.drop i).take (dR (keys L) i-i)⟩]):=by
 have hi':i<(keys L).length:=by simpa using hi
 obtain⟨h1,h2⟩:=uN hi';have h3:dR (keys L) i≤L.length:=by simpa using h2
 refine⟨h3,?_,?_,fun t ht=>?_,?_,fun t ht=>?_⟩
 ·rw[hT.key,SY hi',an6,apY,aoO,List.singleton_append];show _=_++((L.drop i).take _).map _::_;rw[apl,List.map_drop]
 ·rw[an6,apm,hT.flat,apY,List.flatten_singleton];conv=>rhs; rw[show dR (keys L) i=i+(dR (keys L) i-i) by omega,List.take_add]
 ·rcases aod.1 ht with ht | ht
  ·exact hT.ok t ht
  rw[aoe.1 ht];have:=L8 h (i:=i) (j:=dR (keys L) i) (by omega) h3;unfold dB.v;rwa [show((L.drop i).take (dR (keys L) i-i)).length=dR (keys L) i-i by simp; omega]
 ·rw[anX,apL]; have:=hT.len; omega
 rcases aod.1 ht with ht | ht
 ·exact hT.ne t ht
 rw[aoe.1 ht]; simp; omega
theorem OL:∀{x y:List (List aF)} {p:Nat},p≤x.length→p≤y.length→x.take p=y.take p→(∀(hx:p<x.length) (hy:p<y.length),x[p]≠y[p])→pK x y=p
 | [],y,p,h1,_,_,_=>by
  obtain rfl:p=0:=by simpa using h1
  simp[pK]
 | x::a,[],p,_,h2,_,_=>by
  obtain rfl:p=0:=by simpa using h2
  simp[pK]
 | x::a,y::b,0,_,_,_,h=>by
  unfold pK
  have:=h (by simp) (by simp)
  simp only[List.getElem_cons_zero]at this
  rw[anq this]
 | x::a,y::b,p+1,h1,h2,h3,h4=>by
  rw[apE,apE,aog]at h3
  unfold pK
  rw[anv h3.1,OL (by simpa using h1) (by simpa using h2) h3.2 fun hx hy=>by
   have:=h4 (by simpa using hx) (by simpa using hy)
   simpa using this]
theorem rev_at{x:List (List aF)}{p q:Nat}(h:q+p<x.length):∃h2:q<(x.drop p).reverse.length,(x.drop p).reverse[q]=x[x.length-1-q]'(by omega):=by
 refine⟨by simp; omega,?_⟩;rw[List.getElem_reverse,List.getElem_drop];congr 1;simp only[apn]; omega
abbrev fD (l:List dB):List (List aF):=l.map dB.key
theorem VQ{l:List dB}{k:Nat}{x:dB}(h:k<l.length)(hx:l[k]=x):(fD l)[k]'(by simpa using h)=x.key:=by simp[hx]
structure Au (l m:List dB) (p:Nat):Prop where
 l1:p≤l.length
 l2:p≤m.length
 e:(fD l).take p=(fD m).take p
theorem Au.zero(l m:List dB):Au l m 0:=⟨anz _,anz _,rfl⟩
theorem Au.step{l m:List dB}{p:Nat}(h:Au l m p)(h1:p<l.length)(h2:p<m.length){x y:dB}(hx:l[p]=x)(hy:m[p]=y)(he:decide (keys x.l=keys y.l)=true):Au l m (p+1):=by
 refine⟨h1,h2,?_⟩;rw[an2 (by simpa using h1),an2 (by simpa using h2),h.e,VQ h1 hx,VQ h2 hy];have:=anC he;rw[show x.key=y.key from this]
theorem Au.full{l m:List dB}{p:Nat}(h:Au l m p)(hn:¬p<min l.length m.length):pK (fD l) (fD m)=p:=
 OL (by simpa using h.l1) (by simpa using h.l2) h.e fun hx hy=>by simp at hx hy; omega
theorem Au.no{l m:List dB}{p:Nat}(h:Au l m p)(h1:p<l.length)(h2:p<m.length){x y:dB}(hx:l[p]=x)(hy:m[p]=y)(he:decide (keys x.l=keys y.l)=false):pK (fD l) (fD m)=p:=
 OL (by simpa using h.l1) (by simpa using h.l2) h.e fun _ _=>by
  rw[VQ h1 hx,VQ h2 hy]
  exact anE he
structure vU (l m:List dB) (p q:Nat):Prop where
 l1:q+p≤l.length
 l2:q+p≤m.length
 e:((fD l).drop p).reverse.take q=((fD m).drop p).reverse.take q
theorem vU.zero{l m:List dB}{p:Nat}(h:Au l m p):vU l m p 0:=⟨by have:=h.l1; omega,by have:=h.l2; omega,rfl⟩
theorem vU.at{l:List dB}{p q:Nat}{x:dB}(h:q+p<l.length)(hx:l[l.length-1-q]'(by omega)=x):∃h2:q<((fD l).drop p).reverse.length,((fD l).drop p).reverse[q]=x.key:=by
 obtain⟨h2,h3⟩:=rev_at (x:=fD l) (p:=p) (q:=q) (by simpa using h);refine⟨h2,h3.trans ?_⟩;rw[apa];simp only[aob,hx]
theorem vU.step{l m:List dB}{p q:Nat}(h:vU l m p q)(h1:q+p<l.length)(h2:q+p<m.length){x y:dB}(hx:l[l.length-1-q]'(by omega)=x)(hy:m[m.length-1-q]'(by omega)=y)(he:decide (keys x.l=keys y.l)=true):vU l m p (q+1):=by
 obtain⟨a1,a2⟩:=vU.at h1 hx;obtain⟨b1,b2⟩:=vU.at h2 hy;refine⟨by omega,by omega,?_⟩;rw[an2 a1,an2 b1,h.e,a2,b2,show x.key=y.key from anC he]
theorem vU.full{l m:List dB}{p q:Nat}(h:vU l m p q)(hp:pK (fD l) (fD m)=p)(hn:¬q+p<min l.length m.length):qK (fD l) (fD m)=q:=by
 unfold qK;rw[hp];refine OL ?_ ?_ h.e fun hx hy=>?_
 ·have:=h.l1; simp; omega
 ·have:=h.l2; simp; omega
 simp at hx hy; omega
theorem vU.no{l m:List dB}{p q:Nat}(h:vU l m p q)(hp:pK (fD l) (fD m)=p)(h1:q+p<l.length)(h2:q+p<m.length){x y:dB}(hx:l[l.length-1-q]'(by omega)=x)(hy:m[m.length-1-q]'(by omega)=y)(he:decide (keys x.l=keys y.l)=false):qK (fD l) (fD m)=q:=by
 obtain⟨a1,a2⟩:=vU.at h1 hx;obtain⟨b1,b2⟩:=vU.at h2 hy;unfold qK;rw[hp];refine OL ?_ ?_ h.e fun hx hy=>?_
 ·have:=h.l1; simp; omega
 ·have:=h.l2; simp; omega
 rw[a2,b2]; exact anE he
theorem vV{a b:Nat}(h:b≤a)(h2:a≤9223372036854775807):Value.i (IntKind.i64.wrap ((a:Int)-(b:Int))) = .i (a-b:Nat):=by
 have:IntKind.i64.wrap ((a:Int)-(b:Int))=((a-b:Nat):Int):=by rw[aoW]; omega
 rw[this]
theorem Eb{w:World}{v u:Value}{l m:List aj}(h:dK K w v l)(h':dK K w u m) :
  Calls prog 72 #[v,u] w fun e w'=>e = .returned (.bool (uM (keys l) (keys m)))∧Ext w w':=by
 obtain⟨a,cap,rfl⟩:=h.1.shape;obtain⟨d,cap',rfl⟩:=h'.1.shape;have hmax:l.length≤9223372036854775807:=h.1.len;refine am0 func72 ntmps72 fun ac S=>amW fun _ aO=>adr S 1 [] [(4,.bool false)] fun S=>amV<|aO _ _<|anj fun _ eG=>amW fun _ gY=>adr S 5 [] [(10,.bool (((l.length:Int)) != (m.length:Int)))] fun S=>amV (gY _ _ ?_);refine amX S (fun hc4=>?_) (fun hc4=>?_)
 ·refine amW fun _ dA=>adr S 1 [] [(4,.bool false)] fun S=>amV<|dA _ _<|amZ S results72 ?_;exact⟨aB (aeG (fun e=>by rw[e]at hc4; simp at hc4)),S.E⟩
 refine ano<|eG _ _<|anj fun _ iQ=>amW fun _ jB=>adr S 3 [] [(12,.i l.length),(13,.i 0)] fun S=>amV<|jB _ _<|anp ?_;refine anP (ι:=Nat) (fun p a' w'=>p≤l.length∧((RU l).take p=(RU m).take p)∧Sx.St w a' w' 41 [(0,.slice a l.length cap),(1,.slice d m.length cap'),(4,.bool false),(12,.i l.length),(13,.i p)] [] []) (fun p=>l.length-p) (0) ⟨anz _,rfl,S.sn⟩ ?_;rintro k ac u hI;try dsimp only at hI
 obtain⟨hk,hR,S⟩:=hI;refine amW fun _ dJ=>adr S 1 [] [(14,.bool ((k:Int)<(l.length:Int)))] fun S=>amV<|dJ _ _<|anj (fun _ gZ=>?_);refine amX S (fun bM=>?_) (fun bM=>?_)
 ·refine ano<|gZ _ _<|anj fun _ bW=>anp<|amW fun _ cZ=>adr S 2 [] [(5,.i k)] fun S=>amV<|cZ _ _<|anj (fun _ gJ=>?_);have lg:k<l.length:=by have:=anC bM; omega
  obtain⟨b15,o16,rfl,x21,vF,Du,Dv⟩:=anF h.1 (fun _=>rfl) (k) lg;have S:=S.view0 Du Dv;have kF:k<m.length:=by have:=jh hc4; have:=anC bM; omega
  obtain⟨b23,o24,rfl,y29,hx27,zJ,Aw⟩:=anF h'.1 (fun _=>rfl) (k) kF;have S:=S.view0 zJ Aw;refine am6 S 24 [.idx k l.length,.mem 1 0,.idx k m.length,.mem 0 0,.idx k l.length,.mem 1 2,.idx k m.length,.mem 0 2] [] [(39,.bool (((x21.id) != y29.id)||((x21.depth) != y29.depth)))] trivial (hk:=⟨lg,kF,lg,kF,trivial⟩) fun ac u Dj S=>amV (gJ _ _ ?_);refine amX S (fun hc31=>?_) (fun hc31=>?_)
  ·refine amW fun _ jF=>adr S 1 [] [(4,.bool false)] fun S=>amV<|jF _ _<|amZ S results72 ?_;exact⟨aB (aeI lg kF vF hx27 hc31),S.E⟩
  refine ano<|bW _ _<|ant<|adr S 2 [.re 40 (.i (IntKind.i64.wrap ((k:Int)+1))) (.i (k+1:Nat))] [(13,.i (k+1:Nat))] (hk:=⟨am8 (by omega),trivial⟩) fun S=>amV ?_;show ∃i',_∧_;exact⟨(k+1),⟨by omega,(VP lg kF hR vF hx27 hc31),S.sn⟩,by show _-_<_-_; omega⟩
 refine anB<|iQ _ _<|amW fun _ mF=>adr S 1 [] [(4,.bool true)] fun S=>amV<|mF _ _<|amZ S results72 ?_;exact⟨aB (aao (by have:=anE bM; omega) (jh hc4) hR),S.E⟩
theorem aap{w0 w:World}{bl:List (Nat×List Value)}{e:TypeId}{k:Nat}(R:Sx.Rw w0 w bl []):Sx.Rw w0 w bl [⟨e,k,.slice none 0 0,0,[]⟩]:=adz R
theorem Ec{w:World}{v:Value}{L:List aj}(h:dK K w v L)(hn:L.length≤100000) :
  Calls prog 108 #[v] w fun e w'=>∃(v':Value) (ts:List dB),e = .returned v'∧w'.ownsRow w.heap.size 24 1 v' ts.length (ts.map dB.v)∧(∀t∈ts,dK K w' t.v t.l)∧(ts.map dB.l).flatten=L∧bZ (keys L)=fD ts∧(∀t∈ts,0<t.l.length)∧ts.length≤L.length∧Ext w w':=by
 obtain⟨a,cap,rfl⟩:=h.1.shape;have hlc:=Sx.jO h.1;refine am0 func108 ntmps108 fun ac S=>amW fun _ aO=>adr S 1 [] [(2,.slice none 0 0)] fun S=>amV<|aO _ _<|amW fun _ eG=>adr S 1 [] [(3,.slice none 0 0)] fun S=>amV<|eG _ _<|anj fun _ gY=>amW fun _ lQ=>adr S 1 [] [(4,.i 0)] fun S=>amV<|lQ _ _<|anp ?_;have R:=aou S;have R:=aap (e:=24) (k:=1) R;refine anP (ι:=Nat×Value×List dB) (fun p a' w'=>(Fa K w L p.1 p.2.2)∧Sx.Rw w w' [] [⟨24,1,p.2.1,p.2.2.length,p.2.2.map dB.v⟩]∧Sx.St w a' w' 23 [(0,.slice a L.length cap),(2,.slice none 0 0),(3,p.2.1),(4,.i p.1)] [] []) (fun p=>L.length-p.1) (0,.slice none 0 0,[]) ⟨⟨anz _,rfl,rfl,(fun t ht=>by cases ht),anw _,(fun t ht=>by cases ht)⟩,R,S.sn⟩ ?_;rintro⟨i,v,ts⟩ ac u hI;try dsimp only at hI
 obtain⟨hR,R,S⟩:=hI;refine anj fun _ dA=>amW fun _ iQ=>adr S 4 [] [(9,.bool ((i:Int)<(L.length:Int)))] fun S=>amV (iQ _ _ ?_);refine amX S (fun kP=>?_) (fun kP=>?_)
 ·refine ano<|dA _ _<|anp<|amW (fun _ dJ=>?_);have hi:i<L.length:=by have:=anC kP; omega
  have hee:=uN (l:=keys L) (i:=i) (by simpa using hi);have he2:dR (keys L) i≤L.length:=by simpa using hee.2
  refine adr S 2 [] [(10,.slice a L.length cap),(11,.i i)] fun S=>am3 S 12 (y7 (h.1.below S.E) hi rfl rfl) fun ac u E9 S=>adr S 1 [] [(5,.i (dR (keys L) i:Nat))] fun S=>amV<|dJ _ _<|amW fun _ fE=>adr S 6 [.slc i (dR (keys L) i) (dR (keys L) i) cap] [(13,v),(18,.slice (Sx.uw a i (dR (keys L) i) 47) (dR (keys L) i-i) (dR (keys L) i-i))] (hk:=⟨⟨by omega,anw _,by omega⟩,trivial⟩) fun S=>ani S 19 1 [.slice (Sx.uw a i (dR (keys L) i) 47) (dR (keys L) i-i) (dR (keys L) i-i)] (fun ac u b11 Ed XM S=>?_);have hTl:=hR.len;obtain⟨R,Y14⟩:=R.bC S (anA (anR E9) (aos Ed XM));refine anh S R 0 20 rfl afr (Sx.nJ (m:=1) (k:=1) (A:=[.slice (Sx.uw a i (dR (keys L) i) 47) (dR (keys L) i-i) (dR (keys L) i-i)]) (S.bx 0)) (by show ts.length+1≤9223372036854775807; omega) (by show(ts.length+1)*24≤140737488355328; omega) fun ac u v15 X16 R S=>adr S 1 [] [(3,v15)] fun S=>amV<|fE _ _<|ant<|adr S 2 [] [(4,.i (dR (keys L) i:Nat))] fun S=>amV ?_;have S:=S.lu 1;obtain⟨R,Y17⟩:=R.bC S (aoQ 1);show ∃i',_∧_;exact⟨((dR (keys L) i),v15,(ts++[(⟨Sx.uw a i (dR (keys L) i) 47,(L.drop i).take (dR (keys L) i-i)⟩:dB)])),⟨hR.step h hi,R.as (show [(⟨24,1,v15,ts.length+1,ts.map dB.v++[.slice (Sx.uw a i (dR (keys L) i) 47) (dR (keys L) i-i) (dR (keys L) i-i)]⟩:Sx.Row)]=[⟨24,1,v15,(ts++[(⟨Sx.uw a i (dR (keys L) i) 47,(L.drop i).take (dR (keys L) i-i)⟩:dB)]).length,(ts++[(⟨Sx.uw a i (dR (keys L) i) 47,(L.drop i).take (dR (keys L) i-i)⟩:dB)]).map dB.v⟩] by rw[anX,an6,apY]; show _=[(⟨_,_,_,_,_++[dB.v _]⟩:Sx.Row)]; unfold dB.v; rw[show((L.drop i).take (dR (keys L) i-i)).length=dR (keys L) i-i by simp; omega]; rfl),S.sn⟩,by show L.length-(dR (keys L) i)<L.length-i; omega⟩
 refine anB<|gY _ _<|amW fun _ jH=>adr S 2 [] [(2,v)] fun S=>amV<|jH _ _<|anr ?_;obtain rfl:i=L.length:=by have:=anE kP; have:=hR.le; omega
 refine am2 S results108 ?_;exact⟨_,ts,rfl,R.own _ anK,fun t ht=>(hR.ok t ht).below S.E,by rw[hR.flat,aoq],by rw[hR.key,aon (by simp),show bZ []=[]from rfl,aoK],hR.ne,by have:=hR.len; omega,S.E⟩
theorem Mc{w:World}{v u:Value}{l m:List dB}(h:wR K w v l)(h':wR K w u m) :
  Calls prog 109 #[v,u] w fun e w'=>e = .returned (.tuple #[.i (pK (fD l) (fD m):Nat),.i (qK (fD l) (fD m):Nat)])∧Ext w w':=by
 obtain⟨a,cap,rfl⟩:=h.1.shape;obtain⟨d,cap',rfl⟩:=h'.1.shape;have aeJ:l.length≤9223372036854775807:=h.1.len;have aeK:m.length≤9223372036854775807:=h'.1.len;refine am0 func109 ntmps109 fun ac S=>amW fun _ aO=>adr S 2 [] [(4,.i 0),(5,.i 0)] fun S=>amV<|aO _ _<|amW fun _ eG=>adr S 2 [] [(6,.i 0),(7,.i 0)] fun S=>amV<|eG _ _<|anj fun _ gY=>anp ?_;refine anP (ι:=Nat) (fun p a' w'=>(Au l m p)∧Sx.St w a' w' 60 [(0,.slice a l.length cap),(1,.slice d m.length cap'),(4,.i 0),(5,.i 0),(6,.i p),(7,.i 0)] [] []) (fun p=>l.length-p) (0) ⟨Au.zero l m,S.sn⟩ ?_;rintro i ac u hI;try dsimp only at hI
 obtain⟨hR,S⟩:=hI;refine anj fun _ lQ=>anj (fun _ dA=>?_);by_cases hq6:i<l.length∧i<m.length
 ·have hl1:=hq6.1;have hl2:=hq6.2;have hr1:=hR.l1;have hr2:=hR.l2;have afs:i<l.length:=hl1;obtain⟨b8,o9,rfl,x14,aft,Tc,ajI⟩:=anF h.1 (fun _=>rfl) (i) afs;have S:=S.view0 Tc ajI;have BI:i<m.length:=hl2;obtain⟨b16,o17,rfl,y22,Ju,Jt,aaq⟩:=anF h'.1 (fun _=>rfl) (i) BI;have S:=S.view0 Jt aaq;refine am6 S 18 [.re 13 (.i (if (m.length:Int)<(l.length:Int)then (m.length:Int)else (l.length:Int))) (.i (min (l.length:Int) (m.length:Int))),.re 14 (.bool ((i:Int)<(min (l.length:Int) (m.length:Int)))) (.bool true),.idx i l.length,.mem 1 0,.idx i m.length,.mem 0 0] [(_,_,true,.bool (keys x14.l=keys y22.l))] [(25,.bool (keys x14.l=keys y22.l))] ⟨fun u hC g=>Dw ((h.2 _ (aft▸anJ afs)).below (Ext.trans' S.E hC)) ((h'.2 _ (Ju▸anJ BI)).below (Ext.trans' S.E hC)),trivial⟩ (hk:=⟨Sx.Az,(anu Value.bool (aoi (by omega))),afs,BI,trivial⟩) fun ac u E7 S=>amV (dA _ _ ?_);refine amX S (fun hc24=>?_) (fun hc24=>?_)
  ·refine ano<|lQ _ _<|anp<|ant<|adr S 3 [.re 27 (.i (IntKind.i64.wrap ((i:Int)+1))) (.i (i+1:Nat))] [(6,.i (i+1:Nat))] (hk:=⟨am8 (by omega),trivial⟩) fun S=>amV ?_;show ∃i',_∧_;exact⟨(i+1),⟨hR.step hl1 hl2 aft Ju hc24,S.sn⟩,by show l.length-(i+1)<l.length-i; omega⟩
  refine anB<|gY _ _<|anj fun _ uz=>anp ?_;have hpk:=hR.no hl1 hl2 aft Ju hc24;have hP0:=hR;refine anP (ι:=Nat) (fun p a' w'=>(vU l m i p)∧Sx.St w a' w' 60 [(0,.slice (some ⟨b8,o9,none⟩) l.length cap),(1,.slice (some ⟨b16,o17,none⟩) m.length cap'),(4,.i 0),(5,.i 0),(6,.i i),(7,.i p)] [] []) (fun p=>l.length-p) (0) ⟨vU.zero hP0,S.sn⟩ ?_;rintro q ac u hI;try dsimp only at hI
  obtain⟨hR,S⟩:=hI;refine anj fun _ kQ=>anj (fun _ kY=>?_);by_cases ahm:q+i<l.length∧q+i<m.length
  ·have hl1:=ahm.1;have hl2:=ahm.2;have hr1:=hR.l1;have hr2:=hR.l2;have Td:l.length-1-q<l.length:=by omega
   obtain⟨x36,hx34,aar,afu⟩:=Vp.ER h.1 (fun _=>rfl) (l.length-1-q) Td;have S:=S.view0 aar afu;have afv:m.length-1-q<m.length:=by omega
   obtain⟨y44,afw,Tf,ajJ⟩:=Vp.ER h'.1 (fun _=>rfl) (m.length-1-q) afv;have S:=S.view0 Tf ajJ;refine am6 S 28 [.re 33 (.i (if (m.length:Int)<(l.length:Int)then (m.length:Int)else (l.length:Int))) (.i (min (l.length:Int) (m.length:Int))),Sx.kw 35 ((min (l.length:Int) (m.length:Int))-(i:Int)),.re 36 (.bool ((q:Int)<((min (l.length:Int) (m.length:Int))-(i:Int)))) (.bool true),.re 41 (.i (IntKind.i64.wrap ((l.length:Int)-1))) (.i (l.length-1:Nat)),.re 43 (.i (IntKind.i64.wrap (((l.length-1:Nat):Int)-(q:Int)))) (.i (l.length-1-q:Nat)),.idx (l.length-1-q) l.length,.mem 1 0,.re 49 (.i (IntKind.i64.wrap ((m.length:Int)-1))) (.i (m.length-1:Nat)),.re 51 (.i (IntKind.i64.wrap (((m.length-1:Nat):Int)-(q:Int)))) (.i (m.length-1-q:Nat)),.idx (m.length-1-q) m.length,.mem 0 0] [(_,_,true,.bool (keys x36.l=keys y44.l))] [(55,.bool (keys x36.l=keys y44.l))] ⟨fun u hC g=>Dw ((h.2 _ (hx34▸anJ Td)).below (Ext.trans' S.E hC)) ((h'.2 _ (afw▸anJ afv)).below (Ext.trans' S.E hC)),trivial⟩ (hk:=⟨Sx.Az,Sx.zT (by omega),(anu Value.bool (aoi (by omega))),(Sx.nU (by omega) aeJ),(vV (by omega) (by omega)),Td,(Sx.nU (by omega) aeK),(vV (by omega) (by omega)),afv,trivial⟩) fun ac u Dt S=>amV (kY _ _ ?_);refine amX S (fun vG=>?_) (fun vG=>?_)
   ·refine ano<|kQ _ _<|anp<|ant<|adr S 3 [.re 57 (.i (IntKind.i64.wrap ((q:Int)+1))) (.i (q+1:Nat))] [(7,.i (q+1:Nat))] (hk:=⟨am8 (by omega),trivial⟩) fun S=>amV ?_;show ∃i',_∧_;exact⟨(q+1),⟨hR.step hl1 hl2 hx34 afw vG,S.sn⟩,by show l.length-(q+1)<l.length-q; omega⟩
   refine anB<|uz _ _<|amW fun _ zK=>adr S 4 [] [(4,.i i),(5,.i q)] fun S=>amV<|zK _ _<|anr ?_;have hqk:=hR.no hpk hl1 hl2 hx34 afw vG;refine aol S results109 ?_;exact⟨by rw[hpk,hqk],S.E⟩
  have hr1:=hR.l1;have hr2:=hR.l2;refine am6 S 28 [.re 33 (.i (if (m.length:Int)<(l.length:Int)then (m.length:Int)else (l.length:Int))) (.i (min (l.length:Int) (m.length:Int))),Sx.kw 35 ((min (l.length:Int) (m.length:Int))-(i:Int)),.re 36 (.bool ((q:Int)<((min (l.length:Int) (m.length:Int))-(i:Int)))) (.bool false),.dead 38 (.bool false),.dead 39 (.bool false),.dead 40 (.bool false),.dead 41 (.bool false),.dead 42 (.bool false),.dead 43 (.bool false),.dead 44 (.bool false),.dead 45 (.bool false),.dead 46 (.bool false),.dead 47 (.bool false),.dead 48 (.bool false),.dead 49 (.bool false),.dead 50 (.bool false),.dead 51 (.bool false),.dead 52 (.bool false),.dead 53 (.bool false),.dead 54 (.bool false)] [] [(55,.bool false)] trivial (hk:=⟨Sx.Az,Sx.zT (by omega),(anu Value.bool (aow (by omega))),trivial⟩) fun ac u E48 S=>amV<|kY _ _<|ane S<|anB<|uz _ _<|amW fun _ xU=>adr S 4 [] [(4,.i i),(5,.i q)] fun S=>amV<|xU _ _<|anr ?_;have hqk:=hR.full hpk (by omega);refine aol S results109 ?_;exact⟨by rw[hpk,hqk],S.E⟩
 have hr1:=hR.l1;have hr2:=hR.l2;refine am6 S 18 [.re 13 (.i (if (m.length:Int)<(l.length:Int)then (m.length:Int)else (l.length:Int))) (.i (min (l.length:Int) (m.length:Int))),.re 14 (.bool ((i:Int)<(min (l.length:Int) (m.length:Int)))) (.bool false),.dead 16 (.bool false),.dead 17 (.bool false),.dead 18 (.bool false),.dead 19 (.bool false),.dead 20 (.bool false),.dead 21 (.bool false),.dead 22 (.bool false),.dead 23 (.bool false),.dead 24 (.bool false)] [] [(25,.bool false)] trivial (hk:=⟨Sx.Az,(anu Value.bool (aow (by omega))),trivial⟩) fun ac u E50 S=>amV<|dA _ _<|ane S<|anB<|gY _ _<|anj fun _ zI=>anp ?_;have hpk:=hR.full (by omega);have hP0:=hR;refine anP (ι:=Nat) (fun p a' w'=>(vU l m i p)∧Sx.St w a' w' 60 [(0,.slice a l.length cap),(1,.slice d m.length cap'),(4,.i 0),(5,.i 0),(6,.i i),(7,.i p)] [] []) (fun p=>l.length-p) (0) ⟨vU.zero hP0,S.sn⟩ ?_;rintro q ac u hI;try dsimp only at hI
 obtain⟨hR,S⟩:=hI;refine anj fun _ OM=>anj (fun _ EP=>?_);by_cases ahn:q+i<l.length∧q+i<m.length
 ·have hl1:=ahn.1;have hl2:=ahn.2;have hr1:=hR.l1;have hr2:=hR.l2;have afx:l.length-1-q<l.length:=by omega
  obtain⟨b56,o57,rfl,x62,afy,ajK,ajL⟩:=anF h.1 (fun _=>rfl) (l.length-1-q) afx;have S:=S.view0 ajK ajL;have afz:m.length-1-q<m.length:=by omega
  obtain⟨b64,o65,rfl,y70,afA,ajM,ajN⟩:=anF h'.1 (fun _=>rfl) (m.length-1-q) afz;have S:=S.view0 ajM ajN;refine am6 S 28 [.re 33 (.i (if (m.length:Int)<(l.length:Int)then (m.length:Int)else (l.length:Int))) (.i (min (l.length:Int) (m.length:Int))),Sx.kw 35 ((min (l.length:Int) (m.length:Int))-(i:Int)),.re 36 (.bool ((q:Int)<((min (l.length:Int) (m.length:Int))-(i:Int)))) (.bool true),.re 41 (.i (IntKind.i64.wrap ((l.length:Int)-1))) (.i (l.length-1:Nat)),.re 43 (.i (IntKind.i64.wrap (((l.length-1:Nat):Int)-(q:Int)))) (.i (l.length-1-q:Nat)),.idx (l.length-1-q) l.length,.mem 1 0,.re 49 (.i (IntKind.i64.wrap ((m.length:Int)-1))) (.i (m.length-1:Nat)),.re 51 (.i (IntKind.i64.wrap (((m.length-1:Nat):Int)-(q:Int)))) (.i (m.length-1-q:Nat)),.idx (m.length-1-q) m.length,.mem 0 0] [(_,_,true,.bool (keys x62.l=keys y70.l))] [(55,.bool (keys x62.l=keys y70.l))] ⟨fun u hC g=>Dw ((h.2 _ (afy▸anJ afx)).below (Ext.trans' S.E hC)) ((h'.2 _ (afA▸anJ afz)).below (Ext.trans' S.E hC)),trivial⟩ (hk:=⟨Sx.Az,Sx.zT (by omega),(anu Value.bool (aoi (by omega))),(Sx.nU (by omega) aeJ),(vV (by omega) (by omega)),afx,(Sx.nU (by omega) aeK),(vV (by omega) (by omega)),afz,trivial⟩) fun ac u RS S=>amV (EP _ _ ?_);refine amX S (fun afB=>?_) (fun afB=>?_)
  ·refine ano<|OM _ _<|anp<|ant<|adr S 3 [.re 57 (.i (IntKind.i64.wrap ((q:Int)+1))) (.i (q+1:Nat))] [(7,.i (q+1:Nat))] (hk:=⟨am8 (by omega),trivial⟩) fun S=>amV ?_;show ∃i',_∧_;exact⟨(q+1),⟨hR.step hl1 hl2 afy afA afB,S.sn⟩,by show l.length-(q+1)<l.length-q; omega⟩
  refine anB<|zI _ _<|amW fun _ Ti=>adr S 4 [] [(4,.i i),(5,.i q)] fun S=>amV<|Ti _ _<|anr ?_;have hqk:=hR.no hpk hl1 hl2 afy afA afB;refine aol S results109 ?_;exact⟨by rw[hpk,hqk],S.E⟩
 have hr1:=hR.l1;have hr2:=hR.l2;refine am6 S 28 [.re 33 (.i (if (m.length:Int)<(l.length:Int)then (m.length:Int)else (l.length:Int))) (.i (min (l.length:Int) (m.length:Int))),Sx.kw 35 ((min (l.length:Int) (m.length:Int))-(i:Int)),.re 36 (.bool ((q:Int)<((min (l.length:Int) (m.length:Int))-(i:Int)))) (.bool false),.dead 38 (.bool false),.dead 39 (.bool false),.dead 40 (.bool false),.dead 41 (.bool false),.dead 42 (.bool false),.dead 43 (.bool false),.dead 44 (.bool false),.dead 45 (.bool false),.dead 46 (.bool false),.dead 47 (.bool false),.dead 48 (.bool false),.dead 49 (.bool false),.dead 50 (.bool false),.dead 51 (.bool false),.dead 52 (.bool false),.dead 53 (.bool false),.dead 54 (.bool false)] [] [(55,.bool false)] trivial (hk:=⟨Sx.Az,Sx.zT (by omega),(anu Value.bool (aow (by omega))),trivial⟩) fun ac u E74 S=>amV<|EP _ _<|ane S<|anB<|zI _ _<|amW fun _ aas=>adr S 4 [] [(4,.i i),(5,.i q)] fun S=>amV<|aas _ _<|anr ?_;have hqk:=hR.full hpk (by omega);refine aol S results109 ?_;exact⟨by rw[hpk,hqk],S.E⟩
end Go.Proofs.YtfmkkemfhjkajaaGreatDoor
