/- What a law asks of a scene before it looks at it: few -/
import Derived.Test.YtiafijffnejhoaaGreatDoorPk35
import Derived.Test.YtiafijffnejhoaaGreatDoorPk32
import Derived.Test.YtiafijffnejhoaaGreatDoorPk22
import Derived.Test.YtiafijffnejhoaaGreatDoorPk45
import Derived.Test.YtiafijffnejhoaaGreatDoorE36b
import Derived.Test.YtiafijffnejhoaaGreatDoorR36c
import Derived.Test.YtiafijffnejhoaaGreatDoorPk30
set_option linter.unusedVariables false
namespace Go.Proofs.YtiafijffnejhoaaGreatDoor
section
open Go.RowKit
variable{α:Type}{K:Nat}
def aU.dig(t:aU):Bool:=cond ((decide (12<(t.a.l1.length:Int)))||(decide (12<(t.a.l2.length:Int)))) (false) (cond ((decide (12<(t.b.l1.length:Int)))||(decide (12<(t.b.l2.length:Int)))) (false) (cond ((decide (12<(t.c.l1.length:Int)))||(decide (12<(t.c.l2.length:Int)))) (false) (cond ((decide (12<(t.d.l1.length:Int)))||(decide (12<(t.d.l2.length:Int)))) (false) (cond ((decide (12<(t.e.l1.length:Int)))||(decide (12<(t.e.l2.length:Int)))) (false) (cond ((decide (12<(t.f.l1.length:Int)))||(decide (12<(t.f.l2.length:Int)))) (false) (true))))))
def au.few(p:au):Bool:=((decide ((p.stops.length:Int)≤40))&&(decide ((p.img.l.length:Int)≤300)))&&p.t.dig
def DT(l:List au):Bool:=decide (l.length≤4)&&l.all au.few
def aB.XI(nd:aB):Bool:=cond ((((decide (40<(nd.clip.length:Int)))||(decide (40<(nd.path.length:Int))))||(decide (40<(nd.style.dash.length:Int))))||(decide (300<(nd.img.l.length:Int)))) false ((nd.t.dig&&(DT nd.fill))&&(DT nd.stroke))
def dH.few(s:dH)(n:Int):Bool:=decide ((s.ns.length:Int)≤n)&&s.ns.all aB.XI
end
section
open Go.RowKit
variable{α:Type}{K:Nat}
def UL(id:Int)(t:aU):aB:=⟨id,1,0,t,none,0,[],0,255,1,false,false,none,0,[],0,none,0,[],aV.bare,none,0,[],dA.bare,0⟩
def ac9:aO:=⟨0,0,0,0⟩
def Ld(id:Int)(t:aU)(b:Nat):aB:=⟨id,3,0,t,none,0,[],0,0,0,false,false,none,0,[],0,none,0,[],aV.bare,none,0,[],⟨1,1,some ⟨b,0,none⟩,1,[ac9]⟩,1⟩
def TI(w:World)(t:aU):Prop:=t.ok w∧t.Is qI
theorem TI.below{w w':World}{t:aU}(h:TI w t)(hE:Ext w w'):TI w' t:=⟨h.1.below hE,h.2⟩
theorem TI.bM{w w':World}{t:aU}{b:Nat}{A:Array Value}(h:TI w t)(hc:Ch b w w')(hx:Bx w b A)(hA:A.toList.all uw=true:=by rfl):TI w' t:=⟨h.1.bM hc hx hA,h.2⟩
theorem aU.Is.q{t:aU}{Q:Q6}(h:t.Is Q)(hn:uS Q):t.q=Q:=by
 obtain⟨n0,n1,n2,n3,n4,n5⟩:=hn;obtain⟨⟨a0,b0,c0,d0⟩,⟨a1,b1,c1,d1⟩,⟨a2,b2,c2,d2⟩,⟨a3,b3,c3,d3⟩,⟨a4,b4,c4,d4⟩,⟨a5,b5,c5,d5⟩⟩:=h;unfold aU.q;rw[qN a0 b0 c0 d0 n0,qN a1 b1 c1 d1 n1,qN a2 b2 c2 d2 n2,qN a3 b3 c3 d3 n3,qN a4 b4 c4 d4 n4,qN a5 b5 c5 d5 n5]
theorem aU.Is.fit{t:aU}{Q:Q6}{K:Nat}(h:t.Is Q)(hl:zK K Q):t.fit K:=by
 obtain⟨l0,l1,l2,l3,l4,l5⟩:=hl;obtain⟨h0,h1,h2,h3,h4,h5⟩:=h;exact⟨jL h0.2.1 h0.2.2.2 l0,jL h1.2.1 h1.2.2.2 l1,jL h2.2.1 h2.2.2.2 l2,jL h3.2.1 h3.2.2.2 l3,jL h4.2.1 h4.2.2.2 l4,jL h5.2.1 h5.2.2.2 l5⟩
def nP(w:World)(id kind:Int)(nd:aB):Prop:=
 (kind=1∧∃t,TI w t∧nd=UL id t)∨(kind=2∧∃t,TI w t∧nd=iE id t)∨(kind=3∧∃t b,TI w t∧Bx w b #[.int .u8 0,.int .u8 0,.int .u8 0,.int .u8 0]∧nd=Ld id t b)∨((kind≠1∧kind≠2∧kind≠3)∧nd=qm)
theorem nP.below{w w':World}{id kind:Int}{nd:aB}(h:nP w id kind nd)(hE:Ext w w'):nP w' id kind nd:=by
 rcases h with ⟨e,t,ht,h⟩ | ⟨e,t,ht,h⟩ | ⟨e,t,b,ht,hb,h⟩ | h
 ·exact .inl ⟨e,t,ht.below hE,h⟩
 ·exact .inr (.inl ⟨e,t,ht.below hE,h⟩)
 ·exact .inr (.inr (.inl ⟨e,t,b,ht.below hE,hb.ext hE,h⟩))
 exact .inr (.inr (.inr h))
theorem nP.bM{w w':World}{id kind:Int}{nd:aB}{b:Nat}{A:Array Value}(h:nP w id kind nd)(hc:Ch b w w')(hx:Bx w b A)(hA:A.toList.all uw=true:=by rfl)(h4:decide (4<A.size)=true:=by kernel_rfl):nP w' id kind nd:=by
 rcases h with ⟨e,t,ht,h⟩ | ⟨e,t,ht,h⟩ | ⟨e,t,c,ht,hb,h⟩ | h
 ·exact .inl ⟨e,t,ht.bM hc hx hA,h⟩
 ·exact .inr (.inl ⟨e,t,ht.bM hc hx hA,h⟩)
 ·exact .inr (.inr (.inl ⟨e,t,c,ht.bM hc hx hA,hb.ch hc (fun e=>by subst e; have h1:=hb.2.1 4; have h2:=hx.2.1 4; rw[h1]at h2; have h3:=aho h4; simp at h2; omega),h⟩))
 exact .inr (.inr (.inr h))
end
section
open Go.RowKit
variable{α:Type}{K:Nat}
theorem TI.fit{w:World}{t:aU}(h:TI w t)(hK:1≤K):t.fit K:=by
 obtain⟨h1,h2,h3,h4,h5,h6⟩:=h.2.fit ZH;exact⟨h1.mono hK,h2.mono hK,h3.mono hK,h4.mono hK,h5.mono hK,h6.mono hK⟩
theorem nP.ok{w:World}{id kind:Int}{nd:aB}(h:nP w id kind nd)(hi:I64 id)(hK:1≤K)(hK2:K≤10000):dZ K w nd:=by
 rcases h with ⟨-,t,ht,rfl⟩ | ⟨-,t,ht,rfl⟩ | ⟨-,t,b,ht,hb,rfl⟩ | ⟨-,rfl⟩
 ·exact⟨⟨hi,(show I64 1 by decide),eH,ht.1,lH w,eH,(show I64 1 by decide),lH w,eH,jo w,aV.iJ w,jo w,dA.iJ w,eH⟩,ht.fit hK,fun p hp=>(by cases hp),fun p hp=>(by cases hp),hK,hK2⟩
 ·exact Ou hi ht.1 (ht.fit (ahh 1)) hK hK2
 ·refine⟨⟨hi,(show I64 3 by decide),eH,ht.1,lH w,eH,eH,lH w,eH,jo w,aV.iJ w,jo w,⟨(show I64 1 by decide),(show I64 1 by decide),?_⟩,(show I64 1 by decide)⟩,ht.fit hK,fun p hp=>(by cases hp),fun p hp=>(by cases hp),hK,hK2⟩;refine⟨some ⟨b,0,none⟩,1,rfl,by decide,.inr ⟨b,0,rfl,hb.1,ahh _,fun i hi j hj=>?_⟩⟩;obtain rfl:i=0:=by simp[Ld]at hi; exact hi
  have:=hb.2.1 j;rw[show 0+0*4+j=j by omega,this];show _=(aO.cells ac9)[j]?;rw[←List.getElem?_toArray];rfl
 exact tq w hK hK2
theorem nP.key{w w2:World}{id kind:Int}{nd m:aB}(h:nP w id kind nd)(k:nP w2 id kind m):nd.key=m.key∧nd.t.same m.t=true:=by
 have hs:qI.same qI=true:=by decide
 rcases h with ⟨rfl,t,ht,rfl⟩ | ⟨rfl,t,ht,rfl⟩ | ⟨rfl,t,b,ht,-,rfl⟩ | ⟨⟨k1,k2,k3⟩,rfl⟩ <;>
 rcases k with ⟨e,u,hu,rfl⟩ | ⟨e,u,hu,rfl⟩ | ⟨e,u,c,hu,-,rfl⟩ | ⟨⟨j1,j2,j3⟩,rfl⟩ <;>
 first | contradiction | (exact absurd e (by decide)) | skip
 ·exact⟨by unfold aB.key UL; simp only[ht.2.q qj,hu.2.q qj],by show t.same u=true; rw[zq ht.2 hu.2,hs]⟩
 ·exact⟨by unfold aB.key iE; simp only[ht.2.q qj,hu.2.q qj],by show t.same u=true; rw[zq ht.2 hu.2,hs]⟩
 ·exact⟨by unfold aB.key Ld dA.key; simp only[ht.2.q qj,hu.2.q qj],by show t.same u=true; rw[zq ht.2 hu.2,hs]⟩
 exact⟨rfl,by decide⟩
theorem nP.check{w:World}{id kind:Int}{nd:aB}(h:nP w id kind nd):(nd.checkN==0)=((((decide (1≤id))&&(decide (id≤1073741824)))&&(decide (1≤kind)))&&(decide (kind≤3))):=by
 have hv:qI.valid=true:=by decide
 have hd:kT qI.xQ q0=false:=by decide
 have key:∀(n:aB),n.jg=[(false,2),((((decide (id<1))||(decide (1073741824<id)))||false)||false,6),(!n.t.q.valid,5),(kT n.t.q.xQ q0,9),(false,10),(false,17)]→n.t.q=qI→n.mW=0→(n.checkN==0)=((decide (1≤id))&&(decide (id≤1073741824))):=by
  intro n hL hq ho;unfold aB.checkN;rw[hL,hq,hv,hd,ho];rw[aif];by_cases h1:id<1
  ·simp[badL,jU,h1]; omega
  by_cases h2:1073741824<id
  ·simp[badL,jU,h2];try omega
  simp[badL,jU,h1,h2]; omega
 rcases h with ⟨rfl,t,ht,rfl⟩ | ⟨rfl,t,ht,rfl⟩ | ⟨rfl,t,b,ht,-,rfl⟩ | ⟨⟨k1,k2,k3⟩,rfl⟩
 ·rw[key _ rfl (ht.2.q qj) rfl]; simp
 ·rw[key _ rfl (ht.2.q qj) rfl]; simp
 ·rw[key _ rfl (ht.2.q qj) rfl]; simp
 rw[Ej];symm;rw[aif];simp only[ahD,ahK,ahu];omega
end
section
open Go.RowKit
variable{α:Type}{K:Nat}
theorem nP.is{w:World}{id kind:Int}{nd:aB}(h:nP w id kind nd)(hk:kind=1∨kind=2):nd.id=id∧nd.kind=kind∧nd.depth=0:=by
 rcases h with ⟨rfl,t,ht,rfl⟩ | ⟨rfl,t,ht,rfl⟩ | ⟨rfl,t,b,ht,-,rfl⟩ | ⟨k,rfl⟩
 ·exact⟨rfl,rfl,rfl⟩
 ·exact⟨rfl,rfl,rfl⟩
 ·omega
 omega
structure VN (κ:aY) (a b c:aJ):Prop where
 e:κ=⟨2,2,.none,[a,b,c]⟩
 a0:a.id=1∧a.kind=1∧a.depth=0∧a.chk=0
 b0:b.id=2∧b.kind=2∧b.depth=1∧b.chk=0
 c0:c.id=3∧c.kind=2∧c.depth=0∧c.chk=0
theorem VN.valid{κ:aY}{a b c:aJ}(h:VN κ a b c):κ.valid=true:=by
 obtain⟨rfl,⟨a1,a2,a3,a4⟩,⟨b1,b2,b3,b4⟩,⟨c1,c2,c3,c4⟩⟩:=h;refine aY.yg.2 ⟨(by show(1:Int)≤2∧(2:Int)≤256∧(1:Int)≤2∧(2:Int)≤256; decide),by show 3≤64; omega,?_,?_,?_,trivial⟩
 ·simp[fJ,lM,a4,a3]
 ·simp[fJ,lM,b4,b3,a1,b1,a2,a3]
 simp[fJ,lM,c4,c3,a1,b1,c1,b2,b3]
theorem NQ{a b c:aJ}(a3:a.depth=0)(b3:b.depth=1)(c3:c.depth=0):iW [a,b,c] 0=2:=by
 have h3:∀j,0<j→j<2→vN [a,b,c] 0<vN [a,b,c] j:=fun j h1 h2=>by
  obtain rfl:j=1:=by omega
  show a.depth<b.depth;omega
 have h4:2<3→vN [a,b,c] 2≤vN [a,b,c] 0:=fun _=>by
  show c.depth≤a.depth;omega
 rw[Io (by simp)];exact Xq (n:=3) (i:=0) (k:=2) (by decide) (by decide) (by decide) h3 h4
theorem VN.sub{κ:aY}{a b c:aJ}(h:VN κ a b c):κ.endOf 0=2:=by
 have hv:=h.valid;obtain⟨rfl,⟨a1,a2,a3,a4⟩,⟨b1,b2,b3,b4⟩,⟨c1,c2,c3,c4⟩⟩:=h;have hh:aY.has ⟨2,2,.none,[a,b,c]⟩ 0=true:=by unfold aY.has; rw[hv]; rfl
 unfold aY.endOf;rw[ahf hh];show((iW [a,b,c] 0:Nat):Int)=2;rw[NQ a3 b3 c3]; rfl
theorem VN.idx{κ:aY}{a b c:aJ}(h:VN κ a b c):κ.index 3=2:=by
 have hv:=h.valid;obtain⟨rfl,⟨a1,a2,a3,a4⟩,⟨b1,b2,b3,b4⟩,⟨c1,c2,c3,c4⟩⟩:=h;unfold aY.index;rw[ahf hv];simp[YT,Bf,List.findIdx?_cons,a1,b1,c1]
theorem VN.app{κ:aY}{a b c:aJ}(h:VN κ a b c):oU κ (.remove 1)=(⟨2,2,.none,[c]⟩,0):=by
 have hv:=h.valid;obtain⟨rfl,⟨a1,a2,a3,a4⟩,⟨b1,b2,b3,b4⟩,⟨c1,c2,c3,c4⟩⟩:=h;have he:=NQ a3 b3 c3;refine PY (l:=[c]) hv (by simp[iV.named,iV.remove]) ?_ ?_
 ·have hf:Bf [a,b,c] (iV.remove 1).id=some 0:=by simp[Bf,iV.remove,List.findIdx?_cons,a1]
  unfold KG;rw[ahe (by simp[iV.remove]),ahf (show(iV.remove 1).kind=2 from rfl)];simp only[hf];show Except.ok (KF [a,b,c] 0 (iW [a,b,c] 0))=_;rw[he]; rfl
 refine aY.yg.2 ⟨(by show(1:Int)≤2∧(2:Int)≤256∧(1:Int)≤2∧(2:Int)≤256; decide),by show 1≤64; omega,?_,trivial⟩;simp[fJ,lM,c4,c3]
theorem VN.chk{a b c:aJ}{κ:aY}(h:VN κ a b c):aY.chk ⟨1,1,.none,[b,c]⟩=(17,0):=by
 obtain⟨rfl,⟨a1,a2,a3,a4⟩,⟨b1,b2,b3,b4⟩,⟨c1,c2,c3,c4⟩⟩:=h;unfold aY.chk;rw[ahe (by show ¬((1:Int)<1∨(256:Int)<1∨(1:Int)<1∨(256:Int)<1); decide),ahe (by show ¬64<2; omega)];simp[iy,fJ,lM,b4,b3]
theorem wK{f:FuncId}{args:Array Value}{w:World}{v v':Value}(h:Calls Tryz.prog f args w fun e w'=>e = .returned v∧Ext w w')(hv:v=v'):Calls Tryz.prog f args w fun e w'=>e = .returned v'∧Ext w w':=hv▸h
end
section
open Go.RowKit
variable{α:Type}{K:Nat}
theorem XJ{w:World}{a b:aB}(h:dZ K w a)(h':dZ K w b):Calls Tryz.prog 47 #[a.v,b.v] w fun e w'=>e = .returned (.bool (a.key=b.key))∧Ext w w':=by
 rw[←Xp h.nrm h'.nrm]; exact Es h h'
structure aa9 (l:List aB) (k:Nat):Prop where
 at':qV l k (lM ((keys l).take k))
 ok:∀(j:Nat) (hj:j<l.length),j<k→l[j].checkN=0
theorem aa9.next{l:List aB}{k:Nat}{x:aB}(h:aa9 l k)(hk:k<l.length)(hx:l[k]=x)(hw:fJ ((keys l).take k) x.key=0):aa9 l (k+1):=by
 refine⟨h.at'.next hk hx hw ?_,fun j hj hjk=>?_⟩
 ·rw[ahM (by simpa using hk),Bg,yj hk hx]; rfl
 by_cases e:j=k
 ·subst e;rw[hx,←xg];exact(yO.1 hw).1
 exact h.ok j hj (by omega)
set_option maxRecDepth 100000 in
set_option maxHeartbeats 3200000 in
theorem IW{w:World}{s t:dH}(h:mg K w s)(h':mg K w t) :
  Calls Tryz.prog 18 #[s.v,t.v] w fun e w'=>e = .returned (.bool (s.key=t.key))∧Ext w w':=by
 have hmax:s.ns.length≤9223372036854775807:=h.2.2.1.len;refine agX Tryz.func18 Tryz.ntmps18 (fun ac S=>?_);obtain⟨a,cap,es⟩:∃a c,s.s = .slice a s.ns.length c:=⟨_,_,rfl⟩;have hr:=h.2.2.1;rw[es]at hr;obtain⟨d,cap',et⟩:∃a c,t.s = .slice a t.ns.length c:=⟨_,_,rfl⟩;have hr':=h'.2.2.1;rw[et]at hr';refine agS fun _ aX=>agT S 2 s.cells fun ac u b2 E3 hb4 S=>agT S 3 t.cells fun ac u b5 E6 hb7 S=>adr S 1 [] [(4,.bool false)] fun S=>agR<|aX _ _<|ag9 fun _ dU=>agS fun _ iP=>adr S 28 [.mem 1 0,.mem 0 0,.mem 1 1,.mem 0 1,.mem 1 2,.mem 0 2,.cmp .neq 38 (.tmp 20) (.tmp 22) (.agg #[.int .u8 (s.bg.r.toNat:Int),.int .u8 (s.bg.g.toNat:Int),.int .u8 (s.bg.b.toNat:Int),.int .u8 (s.bg.a.toNat:Int)]) (.agg #[.int .u8 (t.bg.r.toNat:Int),.int .u8 (t.bg.g.toNat:Int),.int .u8 (t.bg.b.toNat:Int),.int .u8 (t.bg.a.toNat:Int)]) (.bool (!decide (s.bg=t.bg))),.mem 1 6,.re 27 s.s (.slice a s.ns.length cap),.mem 0 6,.re 30 t.s (.slice d t.ns.length cap')] [(33,.bool (((((s.w) != t.w)||((s.h) != t.h))||(!decide (s.bg=t.bg)))||(((s.ns.length:Int)) != (t.ns.length:Int))))] (hk:=⟨(Sx.dX (fun _=>aaM s.bg t.bg _) (by kernel_rfl)),es,et,trivial⟩) fun S=>agR (iP _ _ ?_);refine agU S (fun cO=>?_) (fun cO=>?_)
 ·refine agS fun _ dB=>adr S 1 [] [(4,.bool false)] fun S=>agR<|dB _ _<|agV S Tryz.results18 ?_;exact⟨aI (acY cO),S.E⟩
 refine aha<|dU _ _<|ag9 fun _ dP=>agS fun _ gX=>adr S 1 [] [(5,.i 0)] fun S=>agR<|gX _ _<|ahc ?_;refine ahJ (ι:=Nat) (fun p a' w'=>p≤s.ns.length∧((keys s.ns).take p=(keys t.ns).take p)∧Sx.St w a' w' 53 [(0,s.v),(1,t.v),(2,.pointer (some ⟨b2,0,none⟩)),(3,.pointer (some ⟨b5,0,none⟩)),(4,.bool false),(5,.i p)] [(b5,t.cells),(b2,s.cells)] []) (fun p=>s.ns.length-p) (0) ⟨ahk _,rfl,S.sn⟩ ?_;rintro k ac u hI;try dsimp only at hI
 obtain⟨hk,hR,S⟩:=hI;refine ag9 fun _ fP=>agS fun _ jk=>adr S 5 [.mem 1 6,.re 36 s.s (.slice a s.ns.length cap)] [(38,.bool ((k:Int)<(s.ns.length:Int)))] (hk:=⟨es,trivial⟩) fun S=>agR (jk _ _ ?_);refine agU S (fun hc16=>?_) (fun hc16=>?_)
 ·refine aha<|fP _ _<|ag9 fun _ iC=>ahc<|ag9 (fun _ jE=>?_);have uU:k<s.ns.length:=by have:=aho hc16; omega
  obtain⟨b20,o21,rfl,GH,hx24,Oj,Rh⟩:=ahx hr (fun _=>rfl) (k) uU;have S:=S.view0 Oj Rh;have uV:k<t.ns.length:=by have:=Um cO; have:=aho hc16; omega
  obtain⟨b28,o29,rfl,y34,hx32,JA,Ri⟩:=ahx hr' (fun _=>rfl) (k) uV;have S:=S.view0 JA Ri;refine ag2 S 12 [.mem 1 6,.re 42 s.s (.slice (some ⟨b20,o21,none⟩) s.ns.length cap),.idx k s.ns.length,.mem 3 0,.mem 0 6,.re 47 t.s (.slice (some ⟨b28,o29,none⟩) t.ns.length cap'),.idx k t.ns.length,.mem 2 0] [(_,_,true,.bool (GH.key=y34.key))] [(52,.bool (!(decide (GH.key=y34.key))))] ⟨fun u hC g=>XJ ((h.2.2.2 _ (hx24▸ah3 uU)).below (Ext.trans' S.E hC)) ((h'.2.2.2 _ (hx32▸ah3 uV)).below (Ext.trans' S.E hC)),trivial⟩ (hk:=⟨es,uU,et,uV,trivial⟩) fun ac u Qr S=>agR (jE _ _ ?_);refine agU S (fun uX=>?_) (fun uX=>?_)
  ·refine agS fun _ oO=>adr S 1 [] [(4,.bool false)] fun S=>agR<|oO _ _<|agV S Tryz.results18 ?_;exact⟨aI (YV cO (acX uU uV hx24 hx32 uX)),S.E⟩
  refine aha<|iC _ _<|ahi<|adr S 3 [.re 40 (.i (IntKind.i64.wrap ((k:Int)+1))) (.i (k+1:Nat))] [(5,.i (k+1:Nat))] (hk:=⟨ag7 (by omega),trivial⟩) fun S=>agR ?_;show ∃i',_∧_;exact⟨(k+1),⟨by omega,(Xt uU uV hR hx24 hx32 uX),S.sn⟩,by show _-_<_-_; omega⟩
 refine ahn<|dP _ _<|agS fun _ mX=>adr S 1 [] [(4,.bool true)] fun S=>agR<|mX _ _<|agV S Tryz.results18 ?_;exact⟨aI (YV cO (aaN (by have:=aht hc16; omega) (Um cO) hR)),S.E⟩
end
end Go.Proofs.YtiafijffnejhoaaGreatDoor
