/- Reference 37: what it asks of scenes. Chapter 46's -/
import Derived.Test.YtapmgonflgahbaaGreatDoorPk36
import Derived.Test.YtapmgonflgahbaaGreatDoorSb5
set_option linter.unusedVariables false
namespace Go.Proofs.YtapmgonflgahbaaGreatDoor
open _root_.Go.Proofs.Tryz
section
set_option maxHeartbeats 3200000
set_option maxRecDepth 100000
open Go.RowKit
variable{α:Type}{K:Nat}
theorem Ae{j:Nat}(h:j+1≤9223372036854775807):Value.i (IntKind.i64.wrap (((j+1:Nat):Int)-1)) = .i j:=by
 have:IntKind.i64.wrap (((j+1:Nat):Int)-1)=(j:Int):=by rw[ap6]; omega
 rw[this]
theorem D7{l:List aA}{j:Nat}{p x:aA}(hj:j<l.length)(hp:l[j]=p):uf ((keys l).take (j+1)) x.key=((((p.kind)==1)&&((x.depth)==(p.depth+1)))||decide (x.depth≤p.depth)):=by
 unfold uf;rw[aoZ (by simpa using hj),List.getLast?_concat,List.getElem_map,hp];rfl
theorem Hf{l:List aA}{id:Int}:decide (0≤Bq (keys l) id)=(keys l).any fun κ=>κ.id==id:=by
 unfold Bq;cases h:zn (keys l) id with
 | none =>
  have h2:=Sv.1 h;rw[show(decide ((0:Int) ≤ -1))=false from rfl];symm;rw[List.any_eq_false];intro x hx;simpa using h2 x hx
 | some i =>
  obtain⟨hi,h3⟩:=Sr h;rw[show(decide ((0:Int)≤(i:Int)))=true by simp];symm;rw[aqa];exact⟨_,aot hi,by simpa using h3⟩
theorem Vb{w:World}{a b:aA}(h:fG K w a)(h':fG K w b):Calls prog 63 #[a.v,b.v] w fun e w'=>e = .returned (.bool (a.key=b.key))∧Ext w w':=by
 rw[←acv h.nrm h'.nrm]; exact JY h h'
theorem PS{w:World}{a:aA}(h:fG K w a):Calls prog 94 #[a.v] w fun e w'=>e = .returned (.i a.checkN)∧Ext w w':=by
 rw[←Sl]; exact KZ h
theorem XA{w:World}{a:Option Addr}{L:List aA}{c i:Nat}(h:aV 47 aA.cells w (.slice a L.length c) L)(hi:i≤L.length):aV 47 aA.cells w (.slice (Sx.UZ a 0 c 47) i c) (L.take i):=by
 have:=Sx.GX h (aoa i) hi (aoE hi (Sx.BA h)) (an7 c);simpa using this
structure XB (l:List aA) (k:Nat):Prop where
 at':uQ l k (xH ((keys l).take k))
 ok:∀(j:Nat) (hj:j<l.length),j<k→l[j].checkN=0
theorem XB.next{l:List aA}{k:Nat}{x:aA}(h:XB l k)(hk:k<l.length)(hx:l[k]=x)(hw:iR ((keys l).take k) x.key=0):XB l (k+1):=by
 refine⟨h.at'.next hk hx hw ?_,fun j hj hjk=>?_⟩
 ·rw[aoZ (by simpa using hk),GL,Dc hk hx]; rfl
 by_cases e:j=k
 ·subst e;rw[hx,←kV];exact(DZ.1 hw).1
 exact h.ok j hj (by omega)
theorem XB.dep{l:List aA}{k:Nat}(h:XB l k):∀(j:Nat) (hj:j<l.length),j<k→0≤l[j].depth∧l[j].depth<8:=fun j hj hjk=>by
 have:=vT (h.ok j hj hjk);omega
theorem SX{w:World}{v:Value}{l:List aA}(h:aV 47 aA.cells w v l){id:Int} :
  Calls prog 205 #[v,.i id] w fun e w'=>e = .returned (.i (Bq (keys l) id))∧Ext w w':=by
 obtain⟨a,cap,rfl⟩:=h.shape;have hmax:l.length≤9223372036854775807:=h.len;refine anA func205 ntmps205 fun ac S=>anv fun _ aS=>adr S 1 [] [(4,.i 0)] fun S=>anu<|aS _ _<|anV fun _ eP=>anv fun _ jv=>adr S 1 [] [(5,.i 0)] fun S=>anu<|jv _ _<|an1 ?_;refine aow (ι:=Nat) (fun p a' w'=>p≤l.length∧(∀(j:Nat) (hj:j<l.length),j<p→l[j].id≠id)∧Sx.St w a' w' 20 [(0,.slice a l.length cap),(1,.i id),(4,.i 0),(5,.i p)] [] []) (fun p=>l.length-p) (0) ⟨aoa _,fun j hj h=>by omega,S.sn⟩ ?_;rintro k ac u hI;try dsimp only at hI
 obtain⟨hk,hR,S⟩:=hI;refine anV fun _ oq=>anv fun _ bM=>adr S 4 [] [(9,.bool ((k:Int)<(l.length:Int)))] fun S=>anu (bM _ _ ?_);refine anx S (fun hc6=>?_) (fun hc6=>?_)
 ·refine anZ<|oq _ _<|anV fun _ iZ=>an1<|anv (fun _ eu=>?_);have fZ:k<l.length:=by have:=aoe hc6; omega
  obtain⟨b9,o10,rfl,x15,jy,hb16,rV⟩:=aom h (fun _=>rfl) (k) fZ;have S:=S.view0 hb16 rV;refine adr S 7 [.idx k l.length,.mem 0 0] [(18,.bool ((x15.id)==id))] (hk:=⟨fZ,trivial⟩) fun S=>anu (eu _ _ ?_);refine anx S (fun hc17=>?_) (fun hc17=>?_)
  ·refine anv fun _ iI=>adr S 2 [] [(4,.i k)] fun S=>anu<|iI _ _<|anz S results205 ?_;exact⟨by rw[aau fZ (by rw[jy]; simpa using hc17) hR],S.E⟩
  refine anZ<|iZ _ _<|an3<|adr S 3 [.re 11 (.i (IntKind.i64.wrap ((k:Int)+1))) (.i (k+1:Nat))] [(5,.i (k+1:Nat))] (hk:=⟨anJ (by omega),trivial⟩) fun S=>anu ?_;show ∃i',_∧_;exact⟨(k+1),⟨by omega,(Xj fZ hR (by rw[jy]; simpa using hc17)),S.sn⟩,by show _-_<_-_; omega⟩
 refine aod<|eP _ _<|anv fun _ iU=>adr S 1 [] [(4,.i (-1))] fun S=>anu<|iU _ _<|anz S results205 ?_;have hk:=aoi hc6;exact⟨by rw[SB (fun j hj=>hR j hj (by omega))],S.E⟩
theorem LG{w:World}{v:Value}{l:List aA}(h:aV 47 aA.cells w v l){i:Nat}(hi:i<l.length)(hd:∀(j:Nat) (hj:j<l.length),j<i→0≤l[j].depth∧l[j].depth<8){q:Int}(hz:q=(i:Int)) :
  Calls prog 206 #[v,.i q] w fun e w'=>e = .returned (.bool (uf ((keys l).take i) l[i].key))∧Ext w w':=by
 subst hz;obtain⟨a,cap,rfl⟩:=h.shape;have hmax:l.length≤9223372036854775807:=h.len;refine anA func206 ntmps206 fun ac S=>anv fun _ aS=>adr S 1 [] [(4,.z)] fun S=>anu<|aS _ _<|anV fun _ eP=>anv fun _ jv=>adr S 2 [] [(6,.bool (((i:Int))==0))] fun S=>anu (jv _ _ ?_);refine anx S (fun hc4=>?_) (fun hc4=>?_)
 ·refine anv (fun _ bM=>?_);obtain rfl:i=0:=by simpa using hc4
  have ahn:0<l.length:=by omega
  obtain⟨b6,o7,rfl,x12,aj2,Zw,hr9⟩:=aom h (fun _=>rfl) (0) ahn;have S:=S.view0 Zw hr9;refine adr S 7 [.idx 0 l.length,.mem 0 2] [(4,.bool ((x12.depth)==0))] (hk:=⟨ahn,trivial⟩) fun S=>anu<|bM _ _<|anz S results206 ?_;exact⟨by rw[aj2]; rfl,S.E⟩
 refine anZ<|eP _ _<|anV fun _ fP=>anV (fun _ gQ=>?_);obtain⟨j,rfl⟩:∃j,i=j+1:=⟨i-1,by have:=hc4; simp at this; omega⟩;have Lm:j<l.length:=by omega
 obtain⟨b17,o18,rfl,x23,aaA,QK,ae2⟩:=aom h (fun _=>rfl) (j) Lm;have hd0:0≤x23.depth∧x23.depth<8:=aaA▸hd j (by omega) (by omega);have S:=S.view0 QK ae2;have oh:(j+1)<l.length:=by omega
 obtain⟨x31,hx29,A8,SC⟩:=Vp.Xl h (fun _=>rfl) ((j+1)) oh;have S:=S.view0 A8 SC;refine anI S 22 [.re 15 (.i (IntKind.i64.wrap (((j+1:Nat):Int)-1))) (.i j),.idx j l.length,.mem 1 1,.idx (j+1) l.length,.mem 0 2,.re 28 (.i (IntKind.i64.wrap (((j+1:Nat):Int)-1))) (.i j),.idx j l.length,.mem 1 2,Sx.kw 32 (x23.depth+1)] [] [(34,.bool (((x23.kind)==1)&&((x31.depth)==(x23.depth+1))))] trivial (hk:=⟨(Ae (by omega)),Lm,oh,(Ae (by omega)),Lm,Sx.Z5 (by omega),trivial⟩) fun ac u Oo S=>anu (gQ _ _ ?_);refine anx S (fun qY=>?_) (fun qY=>?_)
 ·refine anv fun _ oQ=>adr S 1 [] [(4,.bool true)] fun S=>anu<|oQ _ _<|anz S results206 ?_;exact⟨by rw[hx29,D7 Lm aaA,qY]; rfl,S.E⟩
 refine anZ<|fP _ _<|anV fun _ nZ=>anI S 12 [.idx (j+1) l.length,.mem 0 2,.re 42 (.i (IntKind.i64.wrap (((j+1:Nat):Int)-1))) (.i j),.idx j l.length,.mem 1 2] [] [(46,.bool (x31.depth≤x23.depth))] trivial (hk:=⟨oh,(Ae (by omega)),Lm,trivial⟩) fun ac u Xf S=>adr S 1 [] [(4,.bool (x31.depth≤x23.depth))] fun S=>anu<|nZ _ _<|anz S results206 ?_;exact⟨by rw[hx29,D7 Lm aaA,qY,Bool.false_or],S.E⟩
theorem PU{w:World}{v:Value}{l:List aA}(h:Bz K w v l){i:Nat}(hi:i<l.length)(hd:∀(j:Nat) (hj:j<l.length),j<i→0≤l[j].depth∧l[j].depth<8){q:Int}(hz:q=(i:Int)) :
  Calls prog 150 #[v,.i q] w fun e w'=>e = .returned (.i (iR ((keys l).take i) l[i].key))∧Ext w w':=by
 subst hz;obtain⟨a,cap,rfl⟩:=h.1.shape;have hmax:l.length≤9223372036854775807:=h.1.len;have hlc:=Sx.BA h.1;refine anA func150 ntmps150 fun ac S=>anv fun _ aS=>adr S 1 [] [(4,.i 0)] fun S=>anu<|aS _ _<|anV fun _ eP=>anv (fun _ jv=>?_);have lt9:i<l.length:=hi;obtain⟨b4,o5,rfl,x10,Wj,N7,hr7⟩:=aom h.1 (fun _=>rfl) (i) lt9;have S:=S.view0 N7 hr7;refine adr S 4 [.idx i l.length,.mem 0 0] [(9,x10.v)] (hk:=⟨lt9,trivial⟩) fun S=>anE S 10 (PS ((h.2 _ (Wj▸aot lt9)).below S.E)) fun ac u wE S=>adr S 1 [] [(5,.i x10.checkN)] fun S=>anu<|jv _ _<|anv fun _ iH=>adr S 2 [] [(12,.bool ((x10.checkN) != 0))] fun S=>anu (iH _ _ ?_);refine anx S (fun oL=>?_) (fun oL=>?_)
 ·refine anv fun _ gQ=>adr S 2 [] [(4,.i x10.checkN)] fun S=>anu<|gQ _ _<|anz S results150 ?_;exact⟨by rw[Wj,GZ (by simpa using oL)],S.E⟩
 refine anZ<|eP _ _<|anV fun _ iM=>anV fun _ gV=>anI S 10 [.slc 0 i cap cap,.idx i l.length,.mem 0 0] [(_,_,true,.i (Bq (keys (l.take i)) x10.id))] [(23,.bool (0≤(Bq (keys (l.take i)) x10.id)))] ⟨fun u hC g=>SX (id:=x10.id) ((XA h.1 (Nat.le_of_lt hi)).below (Ext.trans' S.E hC)),trivial⟩ (hk:=⟨⟨aoa _,by omega,an7 _⟩,lt9,trivial⟩) fun ac u uY S=>anu (gV _ _ ?_);refine anx S (fun hc19=>?_) (fun hc19=>?_)
 ·refine anv fun _ jk=>adr S 1 [] [(4,.i 7)] fun S=>anu<|jk _ _<|an2 ?_;have hc0:x10.checkN=0:=by simpa using oL
  have hfa:=Hf (l:=l.take i) (id:=x10.id);rw[show keys (l.take i)=(keys l).take i from aqb ..]at hfa;have hq1:=hc19;rw[show keys (l.take i)=(keys l).take i from aqb ..,hfa]at hq1;refine anD S results150 ?_;exact⟨by rw[Wj,JC hc0 hq1],S.E⟩
 refine anZ<|iM _ _<|anV fun _ jC=>anv fun _ jA=>adr S 2 [] [(24,.slice (some ⟨b4,o5,none⟩) l.length cap),(25,.i i)] fun S=>anE S 26 (BD (LG (h.1.below S.E) hi hd rfl) (show Value.bool (uf ((keys l).take i) l[i].key) = .bool (uf ((keys l).take i) x10.key) by rw[Wj])) fun ac u CJ S=>adr S 1 [] [(27,.bool (!(uf ((keys l).take i) x10.key)))] fun S=>anu (jA _ _ ?_);refine anx S (fun hc24=>?_) (fun hc24=>?_)
 ·refine anv fun _ uo=>adr S 1 [] [(4,.i 17)] fun S=>anu<|uo _ _<|an2 ?_;have hc0:x10.checkN=0:=by simpa using oL
  have hfa:=Hf (l:=l.take i) (id:=x10.id);rw[show keys (l.take i)=(keys l).take i from aqb ..]at hfa;have hq1:=hc19;rw[show keys (l.take i)=(keys l).take i from aqb ..,hfa]at hq1;have hst:=GN (pre:=(keys l).take i) (x:=x10.key) (by rw[kV]; exact hc0);refine anD S results150 ?_;exact⟨by rw[Wj,D5 hc0 hq1 (by have:=hc24; rw[hst]at this; simp at this; exact this)],S.E⟩
 refine anZ<|jC _ _<|anv fun _ jf=>adr S 1 [] [(4,.i 0)] fun S=>anu<|jf _ _<|an2 ?_;have hc0:x10.checkN=0:=by simpa using oL
 have hfa:=Hf (l:=l.take i) (id:=x10.id);rw[show keys (l.take i)=(keys l).take i from aqb ..]at hfa;have hq1:=hc19;rw[show keys (l.take i)=(keys l).take i from aqb ..,hfa]at hq1;have hst:=GN (pre:=(keys l).take i) (x:=x10.key) (by rw[kV]; exact hc0);refine anD S results150 ?_;exact⟨by rw[Wj,G5 hc0 hq1 (by have:=hc24; rw[hst]at this; simp at this; exact this)],S.E⟩
theorem PV{w:World}{s:dF}(h:kW K w s) :
  Calls prog 90 #[s.v] w fun e w'=>e = .returned (.tuple #[.i s.key.chk.1,.i s.key.chk.2])∧Ext w w':=by
 have hmax:s.ns.length≤9223372036854775807:=h.2.2.1.len;refine anA func90 ntmps90 fun ac S=>anv fun _ aS=>anw S 1 s.cells fun ac u b2 E3 hb4 S=>adr S 2 [] [(2,.i 0),(3,.i 0)] fun S=>anu<|aS _ _<|anV fun _ bM=>anv fun _ iL=>adr S 18 [.mem 0 0,.mem 0 0,.mem 0 1,.mem 0 1] [(23,.bool ((((decide (s.w<1))||(decide (256<s.w)))||(decide (s.h<1)))||(decide (256<s.h))))] fun S=>anu (iL _ _ ?_);refine anx S (fun mG=>?_) (fun mG=>?_)
 ·refine anv fun _ eu=>adr S 2 [] [(2,.i 6),(3,.i 0)] fun S=>anu<|eu _ _<|Sx.Pq S results90 ?_;exact⟨by rw[Pn (s:=s.key) mG],S.E⟩
 refine anZ<|bM _ _<|anV fun _ ig=>anv fun _ eX=>adr S 4 [.mem 0 6] [(27,.bool (64<(s.ns.length:Int)))] fun S=>anu (eX _ _ ?_);refine anx S (fun jB=>?_) (fun jB=>?_)
 ·refine anv fun _ dW=>adr S 2 [] [(2,.i 5),(3,.i 64)] fun S=>anu<|dW _ _<|an2 ?_;have hq:=nV (s:=s.key) mG;rw[show s.key.ns=keys s.ns from rfl,apD]at hq;refine Sx.qZ S results90 ?_;exact⟨by rw[hq,an6 (by have:=aoe jB; omega)],S.E⟩
 refine anZ<|ig _ _<|anV fun _ iH=>anv fun _ fP=>adr S 1 [] [(4,.i 0)] fun S=>anu<|fP _ _<|an1 ?_;refine aow (ι:=Nat) (fun p a' w'=>p≤s.ns.length∧(XB s.ns p)∧Sx.St w a' w' 43 [(0,s.v),(1,.q b2 0),(2,.i 0),(3,.i 0),(4,.i p)] [(b2,s.cells)] []) (fun p=>s.ns.length-p) (0) ⟨aoa _,⟨uQ.start _,fun j hj h=>by omega⟩,S.sn⟩ ?_;rintro k ac u hI;try dsimp only at hI
 obtain⟨hk,hR,S⟩:=hI;refine anV fun _ gQ=>anv fun _ iM=>adr S 5 [.mem 0 6] [(32,.bool ((k:Int)<(s.ns.length:Int)))] fun S=>anu (iM _ _ ?_);refine anx S (fun hc17=>?_) (fun hc17=>?_)
 ·refine anZ<|gQ _ _<|anV fun _ iI=>an1<|anv fun _ iU=>adr S 3 [.mem 0 6] [(36,s.s),(37,.i k)] (fun S=>?_);have hk1:k<s.ns.length:=by have:=aoe hc17; omega
  obtain⟨x,hx⟩:∃z,s.ns[k]=z:=⟨_,rfl⟩;refine anE S 38 (BD (PU (h.2.2.below S.E) hk1 hR.dep rfl) (show Value.i (iR ((keys s.ns).take k) s.ns[k].key) = .i (iR ((keys s.ns).take k) x.key) by rw[hx])) fun ac u Am S=>adr S 1 [] [(5,.i (iR ((keys s.ns).take k) x.key))] fun S=>anu<|iU _ _<|anv fun _ jC=>adr S 2 [] [(40,.bool (((iR ((keys s.ns).take k) x.key)) != 0))] fun S=>anu (jC _ _ ?_);refine anx S (fun hc22=>?_) (fun hc22=>?_)
  ·refine anv fun _ qL=>adr S 4 [] [(2,.i (iR ((keys s.ns).take k) x.key)),(3,.i k)] fun S=>anu<|qL _ _<|an2 ?_;have hq:=nV (s:=s.key) mG;rw[show s.key.ns=keys s.ns from rfl,apD]at hq;refine Sx.qZ S results90 ?_;rw[an0 (by have:=aoi jB; omega)]at hq;exact⟨by rw[hq,hR.at'.bad hk1 hx rfl (by simpa using hc22)],S.E⟩
  refine anZ<|iI _ _<|an3<|adr S 3 [.re 34 (.i (IntKind.i64.wrap ((k:Int)+1))) (.i (k+1:Nat))] [(4,.i (k+1:Nat))] (hk:=⟨anJ (by omega),trivial⟩) fun S=>anu ?_;show ∃i',_∧_;exact⟨(k+1),⟨by omega,hR.next hk1 hx (by simpa using hc22),S.sn⟩,by show _-_<_-_; omega⟩
 refine aod<|iH _ _<|anv fun _ jY=>adr S 2 [] [(2,.i 0),(3,.i 0)] fun S=>anu<|jY _ _<|an2 ?_;have hq:=nV (s:=s.key) mG;rw[show s.key.ns=keys s.ns from rfl,apD]at hq;refine Sx.qZ S results90 ?_;rw[an0 (by have:=aoi jB; omega)]at hq;exact⟨by rw[hq,hR.at'.done (by have:=aoi hc17; omega)],S.E⟩
theorem PW{w:World}{s:dF}(h:kW K w s) :
  Calls prog 38 #[s.v] w fun e w'=>e = .returned (.bool s.key.valid)∧Ext w w':=by
 skip;refine anA func38 ntmps38 fun ac S=>anv fun _ aS=>anw S 1 s.cells fun ac u b2 E3 hb4 S=>adr S 1 [] [(2,.z)] fun S=>anu<|aS _ _<|anv fun _ bM=>adr S 1 [.mem 0 0] [(6,s.v)] fun S=>anE S 7 (PV (h.below S.E)) fun ac u E6 S=>adr S 5 [] [(3,.i s.key.chk.1)] fun S=>anu<|bM _ _<|anv fun _ iZ=>adr S 3 [] [(2,.bool ((s.key.chk.1)==0))] fun S=>anu<|iZ _ _<|anz S results38 ?_;exact⟨rfl,S.E⟩
theorem PX{w:World}{s t:dF}(h:kW K w s)(h':kW K w t) :
  Calls prog 22 #[s.v,t.v] w fun e w'=>e = .returned (.bool (s.key=t.key))∧Ext w w':=by
 have hmax:s.ns.length≤9223372036854775807:=h.2.2.1.len;refine anA func22 ntmps22 (fun ac S=>?_);obtain⟨a,cap,es⟩:∃a c,s.s = .slice a s.ns.length c:=⟨_,_,rfl⟩;have hr:=h.2.2.1;rw[es]at hr;obtain⟨d,cap',et⟩:∃a c,t.s = .slice a t.ns.length c:=⟨_,_,rfl⟩;have hr':=h'.2.2.1;rw[et]at hr';refine anv fun _ aS=>anw S 2 s.cells fun ac u b2 E3 hb4 S=>anw S 3 t.cells fun ac u b5 E6 hb7 S=>adr S 1 [] [(4,.z)] fun S=>anu<|aS _ _<|anV fun _ eu=>anv fun _ ig=>adr S 28 [.mem 1 0,.mem 0 0,.mem 1 1,.mem 0 1,.mem 1 2,.mem 0 2,.cmp .neq 23 (.tmp 20) (.tmp 22) (.agg #[.u (s.bg.r.toNat:Int),.u (s.bg.g.toNat:Int),.u (s.bg.b.toNat:Int),.u (s.bg.a.toNat:Int)]) (.agg #[.u (t.bg.r.toNat:Int),.u (t.bg.g.toNat:Int),.u (t.bg.b.toNat:Int),.u (t.bg.a.toNat:Int)]) (.bool (!decide (s.bg=t.bg))),.mem 1 6,.re 27 s.s (.slice a s.ns.length cap),.mem 0 6,.re 30 t.s (.slice d t.ns.length cap')] [(33,.bool (((((s.w) != t.w)||((s.h) != t.h))||(!decide (s.bg=t.bg)))||(((s.ns.length:Int)) != (t.ns.length:Int))))] (hk:=⟨(anN (fun _=>ae0 s.bg t.bg _) (by kernel_rfl)),es,et,trivial⟩) fun S=>anu (ig _ _ ?_);refine anx S (fun dn=>?_) (fun dn=>?_)
 ·refine anv fun _ cZ=>adr S 1 [] [(4,.z)] fun S=>anu<|cZ _ _<|anz S results22 ?_;exact⟨aC (ag9 dn),S.E⟩
 refine anZ<|eu _ _<|anV fun _ dW=>anv fun _ iH=>adr S 1 [] [(5,.i 0)] fun S=>anu<|iH _ _<|an1 ?_;refine aow (ι:=Nat) (fun p a' w'=>p≤s.ns.length∧((keys s.ns).take p=(keys t.ns).take p)∧Sx.St w a' w' 53 [(0,s.v),(1,t.v),(2,.q b2 0),(3,.q b5 0),(4,.z),(5,.i p)] [(b5,t.cells),(b2,s.cells)] []) (fun p=>s.ns.length-p) (0) ⟨aoa _,rfl,S.sn⟩ ?_;rintro k ac u hI;try dsimp only at hI
 obtain⟨hk,hR,S⟩:=hI;refine anV fun _ fP=>anv fun _ gQ=>adr S 5 [.mem 1 6,.re 36 s.s (.slice a s.ns.length cap)] [(38,.bool ((k:Int)<(s.ns.length:Int)))] (hk:=⟨es,trivial⟩) fun S=>anu (gQ _ _ ?_);refine anx S (fun hc16=>?_) (fun hc16=>?_)
 ·refine anZ<|fP _ _<|anV fun _ gV=>an1<|anV (fun _ iI=>?_);have zA:k<s.ns.length:=by have:=aoe hc16; omega
  obtain⟨b20,o21,rfl,Nc,hx24,Vu,Yt⟩:=aom hr (fun _=>rfl) (k) zA;have S:=S.view0 Vu Yt;have zB:k<t.ns.length:=by have:=aax dn; have:=aoe hc16; omega
  obtain⟨b28,o29,rfl,y34,hx32,Qv,Yu⟩:=aom hr' (fun _=>rfl) (k) zB;have S:=S.view0 Qv Yu;refine anI S 12 [.mem 1 6,.re 42 s.s (.slice (some ⟨b20,o21,none⟩) s.ns.length cap),.idx k s.ns.length,.mem 3 0,.mem 0 6,.re 47 t.s (.slice (some ⟨b28,o29,none⟩) t.ns.length cap'),.idx k t.ns.length,.mem 2 0] [(_,_,true,.bool (Nc.key=y34.key))] [(52,.bool (!(decide (Nc.key=y34.key))))] ⟨fun u hC g=>Vb ((h.2.2.2 _ (hx24▸aot zA)).below (Ext.trans' S.E hC)) ((h'.2.2.2 _ (hx32▸aot zB)).below (Ext.trans' S.E hC)),trivial⟩ (hk:=⟨es,zA,et,zB,trivial⟩) fun ac u Il S=>anu (iI _ _ ?_);refine anx S (fun vg=>?_) (fun vg=>?_)
  ·refine anv fun _ qK=>adr S 1 [] [(4,.z)] fun S=>anu<|qK _ _<|anz S results22 ?_;exact⟨aC (adE dn (ag8 zA zB hx24 hx32 vg)),S.E⟩
  refine anZ<|gV _ _<|an3<|adr S 3 [.re 40 (.i (IntKind.i64.wrap ((k:Int)+1))) (.i (k+1:Nat))] [(5,.i (k+1:Nat))] (hk:=⟨anJ (by omega),trivial⟩) fun S=>anu ?_;show ∃i',_∧_;exact⟨(k+1),⟨by omega,(acy zA zB hR hx24 hx32 vg),S.sn⟩,by show _-_<_-_; omega⟩
 refine aod<|dW _ _<|anv fun _ l7=>adr S 1 [] [(4,.bool true)] fun S=>anu<|l7 _ _<|anz S results22 ?_;exact⟨aC (adE dn (ae1 (by have:=aoi hc16; omega) (aax dn) hR)),S.E⟩
end
section
open Go.RowKit
variable{α:Type}{K:Nat}
set_option maxRecDepth 100000 in
set_option maxHeartbeats 3200000 in
theorem PY{w:World}(hg:gI w) :
  Calls prog 11 #[] w fun e w'=>e = .returned (.bool true)∧Ext w w':=by
 skip;refine anA func11 ntmps11 fun ac S=>anv fun _ aS=>adr S 1 [] [(0,.z)] fun S=>anu<|aS _ _<|anv fun _ eP=>anP S 10 10 [.u 71,.u 83,.u 49,.u 8,.u 8,.u 255,.u 255,.u 255,.u 255,.u 0] fun ac u b3 E4 hb5 S=>anB S (some 11) (uT _ m0 _ (iT (Sx.iO (f:=dY) m0 (S.bx 0) (by decide))) (by decide)) ?_;rintro e u ⟨v1,rfl,ho1,E6⟩;refine⟨_,rfl,E6,fun ac S=>?_⟩;refine adr S 1 [] [(1,v1)] fun S=>anu<|eP _ _<|anv fun _ iZ=>anE S 13 (Hg) fun ac u E8 S=>anB S (some 14) ((by have hc:=zo (K:=20) (U8 _) (gI.below hg S.E) rfl PL; rw[PN]at hc; exact hc)) ?_;rintro e u ⟨v2,rfl,ho2,E9⟩;refine⟨_,rfl,E9,fun ac S=>?_⟩;refine adr S 5 [] [(2,v2),(3,.i 0)] fun S=>anu<|iZ _ _<|anv fun _ eX=>adr S 1 [] [(18,v1)] fun S=>anE S 19 (IW (gI.below hg S.E) (rowB ((anL ho1 (Ext.trans' E8 E9))))) fun ac u wu S=>adr S 3 [] [(20,.agg #[.i 4,.i 4,.u 255,.u 255,.u 255,.u 255,.sn]),(21,.i 0)] fun S=>anw S 4 [.i 0,.i 0,.u 0,.u 0,.u 0,.u 0,.sn] fun ac u b12 Dv aeB S=>anC S 0 (off:=0) (cs:=[.i 4,.i 4,.u 255,.u 255,.u 255,.u 255,.sn]) rfl (fun u C15 S=>?_);have Oo:=anF (Ext.trans' E8 (Ext.trans' E9 (Ext.trans' wu Dv))) C15 (by have:=(Ext.trans' E8 (Ext.trans' E9 wu)).size; omega);have wI:=anF (Ext.trans' wu Dv) C15 (by have:=wu.size; omega);refine adr S 1 [] [(5,.i 0)] fun S=>anu<|eX _ _<|anv fun _ iI=>adr S 1 [] [(23,.agg (Sx.L [.i 2,.i 3,.i 0,.i 0,.i 0,.i 0,.i 0]++Sx.za++Sx.L [.sn,.i 0,.u 0,.i 0,.z,.z,.sn,.i 0,.sn,.i 0,.i 0,.i 0,.i 0,.sn,.i 0,.sn,.i 0,.i 0,.sn,.i 0,.u 0,.u 0,.u 0,.u 0]).toArray)] fun S=>anB S (some 24) (wC) ?_;rintro e u ⟨v6,rfl,ho6,Il⟩;refine⟨_,rfl,Il,fun ac S=>?_⟩;refine adr S 5 [] [(6,v6),(7,.i 0)] fun S=>anu<|iI _ _<|anv fun _ jk=>adr S 1 [] [(28,v6)] fun S=>anE S 29 (LH (rowB (ho6))) fun ac u uh S=>adr S 3 [] [(30,.agg (Sx.L [.i 2,.i 3,.i 0,.i 0,.i 0,.i 0,.i 0]++Sx.za++Sx.L [.sn,.i 0,.u 0,.i 0,.z,.z,.sn,.i 0,.sn,.i 0,.i 0,.i 0,.i 0,.sn,.i 0,.sn,.i 0,.i 0,.sn,.i 0,.u 0,.u 0,.u 0,.u 0]).toArray),(31,.i 0)] fun S=>anw S 8 (Sx.L [.i 0,.i 0,.i 0,.i 0,.i 0,.i 0,.i 0]++Sx.za++Sx.L [.sn,.i 0,.u 0,.i 0,.z,.z,.sn,.i 0,.sn,.i 0,.i 0,.i 0,.i 0,.sn,.i 0,.sn,.i 0,.i 0,.sn,.i 0,.u 0,.u 0,.u 0,.u 0]) fun ac u b22 CJ QK S=>anC S 0 (off:=0) (cs:=(Sx.L [.i 2,.i 3,.i 0,.i 0,.i 0,.i 0,.i 0]++Sx.za++Sx.L [.sn,.i 0,.u 0,.i 0,.z,.z,.sn,.i 0,.sn,.i 0,.i 0,.i 0,.i 0,.sn,.i 0,.sn,.i 0,.i 0,.sn,.i 0,.u 0,.u 0,.u 0,.u 0])) rfl (fun u X6 S=>?_);have Yd:=anF (Ext.trans' Oo (Ext.trans' Il (Ext.trans' uh CJ))) X6 (by have:=(Ext.trans' Oo (Ext.trans' Il uh)).size; omega);have E27:=anF (Ext.trans' wI (Ext.trans' Il (Ext.trans' uh CJ))) X6 (by have:=(Ext.trans' wI (Ext.trans' Il uh)).size; omega);have Oc:=anF (Ext.trans' uh CJ) X6 (by have:=uh.size; omega);refine adr S 1 [] [(9,.i 0)] fun S=>anu<|jk _ _<|anV (fun _ oP=>?_);have EG:=S.E;refine Sx.adM S 43 (Rel.is (.i 0)::Rel.is (.bool true)::Rel.is (.bool true)::Rel.is (v2)::Rel.is (.string ⟨(iF.app m0).toArray⟩)::Rel.is (v1)::Rel.is (.string ⟨(iF.app m0).toArray⟩)::Rel.is (.bool true)::Rel.is (.bool true)::Rel.is (.bool true)::Rel.is (.i 0)::Rel.is (.bool true)::Rel.is (.bool true)::Rel.is (.bool true)::Rel.is (.agg #[.i 4,.i 4,.u 255,.u 255,.u 255,.u 255,.sn])::Rel.is (.agg #[.i 4,.i 4,.u 255,.u 255,.u 255,.u 255,.sn])::Rel.is (.bool true)::Rel.is (.bool true)::Rel.is (.bool true)::Rel.is (.i 0)::Rel.is (.bool true)::Rel.is (.bool true)::Rel.is (.bool true)::Rel.is (.i 0)::Rel.is (.bool true)::Rel.is (.bool true)::Rel.is (.bool true)::Rel.is (.q b22 0)::Rel.is (.i 2)::Rel.is (.bool true)::Rel.is (.bool true)::Rel.is (.bool true)::Rel.is (.q b22 1)::Rel.is (.i 3)::Rel.is (.bool true)::Rel.is (.bool true)::Rel.is (.bool true)::Rel.is (.agg (Sx.L [.i 0,.i 0,.i 0]++Sx.za++Sx.L [.sn,.i 0,.u 0,.i 0,.z,.z,.sn,.i 0,.sn,.i 0,.i 0,.i 0,.i 0,.sn,.i 0,.sn,.i 0,.i 0,.sn,.i 0]).toArray)::Rel.is (.sn)::Rel.is (.i 0)::Rel.is (.bool true)::Rel.is (.bool true)::Rel.is (.bool true)::[]) 42 0 (.bool true) ⟨Rel.aI _,Rel.aI _,Rel.aI _,Rel.aI _,Rel.aI _,Rel.aI _,Rel.aI _,Rel.aI _,Rel.aI _,Rel.aI _,Rel.aI _,Rel.aI _,Rel.aI _,Rel.aI _,Rel.aI _,Rel.aI _,Rel.aI _,Rel.aI _,Rel.aI _,Rel.aI _,Rel.aI _,Rel.aI _,Rel.aI _,Rel.aI _,Rel.aI _,Rel.aI _,Rel.aI _,Rel.aI _,Rel.aI _,Rel.aI _,Rel.aI _,Rel.aI _,Rel.aI _,Rel.aI _,Rel.aI _,Rel.aI _,Rel.aI _,Rel.aI _,Rel.aI _,Rel.aI _,Rel.aI _,Rel.aI _,Rel.aI _,trivial⟩ ⟨fun ρ u1 hs ho hC hD=>anG hs [(3,.i 0)] ⟨(ho 3 rfl).trans (S.s.ev rfl),trivial⟩,
  fun ρ u1 hs ho hC hD=>anG hs [(32,.i 0)] ⟨hD.1 rfl,trivial⟩,
  fun ρ u1 hs ho hC hD=>anG hs [(33,.bool true)] ⟨hD.1 rfl,trivial⟩,
  fun ρ u1 hs ho hC hD=>⟨fun _=>anG hs [(2,v2)] ⟨(ho 2 rfl).trans (S.s.ev rfl),trivial⟩,fun hn=>absurd (hD.1 rfl) hn⟩,
  fun ρ u1 hs ho hC hD=>⟨fun _=>Sx.PO (x:=35) (hD.1 rfl) (kQ ((anL ho2 (Ext.trans' E27 hC)))),fun hn=>absurd (hD.2.1 rfl) hn⟩,
  fun ρ u1 hs ho hC hD=>⟨fun _=>anG hs [(1,v1)] ⟨(ho 1 rfl).trans (S.s.ev rfl),trivial⟩,fun hn=>absurd (hD.1 rfl) hn⟩,
  fun ρ u1 hs ho hC hD=>⟨fun _=>Sx.PO (x:=37) (hD.1 rfl) (kQ ((anL ho1 (Ext.trans' Yd hC)))),fun hn=>absurd (hD.2.1 rfl) hn⟩,
  fun ρ u1 hs ho hC hD=>⟨fun _=>Sx.acL (hD.1 rfl) (hD.2.1 rfl) (by simp),fun hn=>absurd (hD.2.2.1 rfl) hn⟩,
  fun ρ u1 hs ho hC hD=>anG hs [(34,.bool true),(39,.bool true)] ⟨hD.1 rfl,hD.2.1 rfl,trivial⟩,
  fun ρ u1 hs ho hC hD=>anG hs [(40,.bool true)] ⟨hD.1 rfl,trivial⟩,
  fun ρ u1 hs ho hC hD=>⟨fun _=>anG hs [(5,.i 0)] ⟨(ho 5 rfl).trans (S.s.ev rfl),trivial⟩,fun hn=>absurd (hD.1 rfl) hn⟩,
  fun ρ u1 hs ho hC hD=>⟨fun _=>anG hs [(42,.i 0)] ⟨hD.1 rfl,trivial⟩,fun hn=>absurd (hD.2.1 rfl) hn⟩,
  fun ρ u1 hs ho hC hD=>anG hs [(41,.bool true),(43,.bool true)] ⟨hD.1 rfl,hD.2.1 rfl,trivial⟩,
  fun ρ u1 hs ho hC hD=>anG hs [(44,.bool true)] ⟨hD.1 rfl,trivial⟩,
  fun ρ u1 hs ho hC hD=>⟨fun _=>Sx.dld ((ho 4 rfl).trans (S.s.ev rfl)) (((S.bx 1).ext hC).range 0 7 rfl),fun hn=>absurd (hD.1 rfl) hn⟩,
  fun ρ u1 hs ho hC hD=>⟨fun _=>Sx.dc (T:=Rel.is (.agg #[.i 4,.i 4,.u 255,.u 255,.u 255,.u 255,.sn])) hs [] trivial ((Hg).mono fun e w2 h=>⟨_,h.1,h.2,rfl⟩),fun hn=>absurd (hD.1 rfl) hn⟩,
  fun ρ u1 hs ho hC hD=>⟨fun _=>Sx.dc (T:=Rel.is (.bool true)) hs [(46,.agg #[.i 4,.i 4,.u 255,.u 255,.u 255,.u 255,.sn]),(47,.agg #[.i 4,.i 4,.u 255,.u 255,.u 255,.u 255,.sn])] ⟨hD.1 rfl,hD.2.1 rfl,trivial⟩ ((BD (PX (K:=20) (U8 u1) (U8 u1)) (an9 Value.bool (aoX rfl))).mono fun e w2 h=>⟨_,h.1,h.2,rfl⟩),fun hn=>absurd (hD.2.2.2.1 rfl) hn⟩,
  fun ρ u1 hs ho hC hD=>anG hs [(45,.bool true),(48,.bool true)] ⟨hD.1 rfl,hD.2.1 rfl,trivial⟩,
  fun ρ u1 hs ho hC hD=>anG hs [(49,.bool true)] ⟨hD.1 rfl,trivial⟩,
  fun ρ u1 hs ho hC hD=>⟨fun _=>anG hs [(7,.i 0)] ⟨(ho 7 rfl).trans (S.s.ev rfl),trivial⟩,fun hn=>absurd (hD.1 rfl) hn⟩,
  fun ρ u1 hs ho hC hD=>⟨fun _=>anG hs [(51,.i 0)] ⟨hD.1 rfl,trivial⟩,fun hn=>absurd (hD.2.1 rfl) hn⟩,
  fun ρ u1 hs ho hC hD=>anG hs [(50,.bool true),(52,.bool true)] ⟨hD.1 rfl,hD.2.1 rfl,trivial⟩,
  fun ρ u1 hs ho hC hD=>anG hs [(53,.bool true)] ⟨hD.1 rfl,trivial⟩,
  fun ρ u1 hs ho hC hD=>⟨fun _=>anG hs [(9,.i 0)] ⟨(ho 9 rfl).trans (S.s.ev rfl),trivial⟩,fun hn=>absurd (hD.1 rfl) hn⟩,
  fun ρ u1 hs ho hC hD=>⟨fun _=>anG hs [(55,.i 0)] ⟨hD.1 rfl,trivial⟩,fun hn=>absurd (hD.2.1 rfl) hn⟩,
  fun ρ u1 hs ho hC hD=>anG hs [(54,.bool true),(56,.bool true)] ⟨hD.1 rfl,hD.2.1 rfl,trivial⟩,
  fun ρ u1 hs ho hC hD=>anG hs [(57,.bool true)] ⟨hD.1 rfl,trivial⟩,
  fun ρ u1 hs ho hC hD=>⟨fun _=>anG hs [(8,.q b22 0)] ⟨(ho 8 rfl).trans (S.s.ev rfl),trivial⟩,fun hn=>absurd (hD.1 rfl) hn⟩,
  fun ρ u1 hs ho hC hD=>⟨fun _=>Sx.dld (hD.1 rfl) (((S.bx 0).ext hC).range 0 1 rfl),fun hn=>absurd (hD.2.1 rfl) hn⟩,
  fun ρ u1 hs ho hC hD=>⟨fun _=>anG hs [(60,.i 2)] ⟨hD.1 rfl,trivial⟩,fun hn=>absurd (hD.2.1 rfl) hn⟩,
  fun ρ u1 hs ho hC hD=>anG hs [(58,.bool true),(61,.bool true)] ⟨hD.1 rfl,hD.2.1 rfl,trivial⟩,
  fun ρ u1 hs ho hC hD=>anG hs [(62,.bool true)] ⟨hD.1 rfl,trivial⟩,
  fun ρ u1 hs ho hC hD=>⟨fun _=>anG hs [(8,.q b22 0)] ⟨(ho 8 rfl).trans (S.s.ev rfl),trivial⟩,fun hn=>absurd (hD.1 rfl) hn⟩,
  fun ρ u1 hs ho hC hD=>⟨fun _=>Sx.dld (hD.1 rfl) (((S.bx 0).ext hC).range 1 1 rfl),fun hn=>absurd (hD.2.1 rfl) hn⟩,
  fun ρ u1 hs ho hC hD=>⟨fun _=>anG hs [(65,.i 3)] ⟨hD.1 rfl,trivial⟩,fun hn=>absurd (hD.2.1 rfl) hn⟩,
  fun ρ u1 hs ho hC hD=>anG hs [(63,.bool true),(66,.bool true)] ⟨hD.1 rfl,hD.2.1 rfl,trivial⟩,
  fun ρ u1 hs ho hC hD=>anG hs [(67,.bool true)] ⟨hD.1 rfl,trivial⟩,
  fun ρ u1 hs ho hC hD=>⟨fun _=>anG hs [] trivial,fun hn=>absurd (hD.1 rfl) hn⟩,
  fun ρ u1 hs ho hC hD=>⟨fun _=>Sx.dc (T:=Rel.is (.sn)) hs [(69,.agg (Sx.L [.i 0,.i 0,.i 0]++Sx.za++Sx.L [.sn,.i 0,.u 0,.i 0,.z,.z,.sn,.i 0,.sn,.i 0,.i 0,.i 0,.i 0,.sn,.i 0,.sn,.i 0,.i 0,.sn,.i 0]).toArray)] ⟨hD.1 rfl,trivial⟩ ((LJ (gI.below hg (Ext.trans' EG hC))).mono fun e w2 h=>⟨_,h.1,h.2,rfl⟩),fun hn=>absurd (hD.2.1 rfl) hn⟩,
  fun ρ u1 hs ho hC hD=>⟨fun _=>anG hs [(70,.sn)] ⟨hD.1 rfl,trivial⟩,fun hn=>absurd (hD.2.1 rfl) hn⟩,
  fun ρ u1 hs ho hC hD=>⟨fun _=>anG hs [(71,.i 0)] ⟨hD.1 rfl,trivial⟩,fun hn=>absurd (hD.2.1 rfl) hn⟩,
  fun ρ u1 hs ho hC hD=>anG hs [(68,.bool true),(72,.bool true)] ⟨hD.1 rfl,hD.2.1 rfl,trivial⟩,
  fun ρ u1 hs ho hC hD=>anG hs [(73,.bool true)] ⟨hD.1 rfl,trivial⟩,trivial⟩ (fun ac u E30 S=>?_) rfl
 refine anu<|oP _ _<|anz S results11 ?_;exact⟨rfl,S.E⟩
end
section
open Go.RowKit Go.ChangeShapes Go.WideShapes
variable{α:Type}
section
variable{H:Type}{enc:TypeId×Value→H}{W:World}{sp:Nat→Bool}{held:Bool}{n:Nat}{cs:List Value}{y:DataW H×List MemPlace}
set_option maxRecDepth 100000
def dF.ok(W:World)(s:dF):Prop:=I64 s.w∧I64 s.h∧aV 47 aA.cells W s.s s.ns∧∀n∈s.ns,n.ok W
def jE.ok(W:World)(e:jE):Prop:=I64 e.kind∧I64 e.id∧I64 e.index∧I64 e.depth∧e.node.ok W
theorem XC(h:DataW.trod enc prog W 0 sp held n 26 cs=some y):∃m:dF,cs=m.cells∧m.ok W:=by
 obtain⟨xs,n',rfl,hx,hl,hlen,hg⟩:=apq underlying26 h;have hl:cs.length=7:=hl.trans (by kernel_rfl);obtain⟨x0,c0,w0⟩:=fE underlying3 (kX (cs:=cs) (off:=0) (k:=1) (hg 0 _ rfl) hlen (by decide) (by kernel_rfl)).choose_spec;obtain⟨x1,c1,w1⟩:=fE underlying3 (kX (cs:=cs) (off:=1) (k:=1) (hg 1 _ rfl) hlen (by decide) (by kernel_rfl)).choose_spec;obtain⟨m2,c2⟩:=yA (kX (cs:=cs) (off:=2) (k:=4) (hg 2 _ rfl) hlen (by decide) (by kernel_rfl)).choose_spec;obtain⟨a3,k3,l3,c3,r3,w3⟩:=rD (k:=47) underlying24 (by decide) (by kernel_rfl) aA.cells (fun n=>n.ok W) (fun n cs y h=>Gl h) (kX (cs:=cs) (off:=6) (k:=1) (hg 3 _ rfl) hlen (by decide) (by kernel_rfl)).choose_spec;have hc:=(show cs=(cs.drop 0).take 7 by rw[ao7,aou (by omega)]).trans ((aX cs 0 1 1 6 7 rfl rfl).trans (an9 _ ((aX cs 1 1 2 5 6 rfl rfl).trans (an9 _ (aX cs 2 4 6 1 5 rfl rfl)))));rw[c0,c1,c2,c3]at hc;exact⟨⟨x0,x1,m2,a3,k3,l3⟩,hc.trans (by kernel_rfl),w0,w1,r3,w3⟩
theorem aaQ(h:DataW.trod enc prog W 0 sp held n 45 cs=some y):∃m:jE,cs=m.cells∧m.ok W:=by
 obtain⟨xs,n',rfl,hx,hl,hlen,hg⟩:=apq underlying45 h;have hl:cs.length=55:=hl.trans (by kernel_rfl);obtain⟨x0,c0,w0⟩:=fE underlying3 (kX (cs:=cs) (off:=0) (k:=1) (hg 0 _ rfl) hlen (by decide) (by kernel_rfl)).choose_spec;obtain⟨x1,c1,w1⟩:=fE underlying3 (kX (cs:=cs) (off:=1) (k:=1) (hg 1 _ rfl) hlen (by decide) (by kernel_rfl)).choose_spec;obtain⟨x2,c2,w2⟩:=fE underlying3 (kX (cs:=cs) (off:=2) (k:=1) (hg 2 _ rfl) hlen (by decide) (by kernel_rfl)).choose_spec;obtain⟨x3,c3,w3⟩:=fE underlying3 (kX (cs:=cs) (off:=3) (k:=1) (hg 3 _ rfl) hlen (by decide) (by kernel_rfl)).choose_spec;obtain⟨m4,c4,w4⟩:=Gl (kX (cs:=cs) (off:=4) (k:=47) (hg 4 _ rfl) hlen (by decide) (by kernel_rfl)).choose_spec;obtain⟨m5,c5⟩:=yA (kX (cs:=cs) (off:=51) (k:=4) (hg 5 _ rfl) hlen (by decide) (by kernel_rfl)).choose_spec;have hc:=(show cs=(cs.drop 0).take 55 by rw[ao7,aou (by omega)]).trans ((aX cs 0 1 1 54 55 rfl rfl).trans (an9 _ ((aX cs 1 1 2 53 54 rfl rfl).trans (an9 _ ((aX cs 2 1 3 52 53 rfl rfl).trans (an9 _ ((aX cs 3 1 4 51 52 rfl rfl).trans (an9 _ (aX cs 4 47 51 4 51 rfl rfl)))))))));rw[c0,c1,c2,c3,c4,c5]at hc;exact⟨⟨x0,x1,x2,x3,m4,m5⟩,hc.trans (by kernel_rfl),w0,w1,w2,w3,w4⟩
theorem Rk{base:Nat}{v:Value}{d:DataW H}{p:List MemPlace}(hv:Value.okWide prog W .any base 26 v)(h:DataW.Trod enc prog W 0 sp held 26 v d p):∃m:dF,v=m.v∧m.ok W:=by
 obtain⟨cs,rfl,hsz⟩:=okWide_struct underlying26 hv;obtain⟨fuel,hf⟩:=h;obtain⟨l⟩:=cs;obtain⟨m,hm,ho⟩:=XC (cs:=l) (y:=(d,p)) hf;exact⟨m,by rw[hm]; rfl,ho⟩
theorem Wp{base:Nat}{v:Value}{d:DataW H}{p:List MemPlace}(hv:Value.okWide prog W .any base 45 v)(h:DataW.Trod enc prog W 0 sp held 45 v d p):∃m:jE,v=m.v∧m.ok W:=by
 obtain⟨cs,rfl,hsz⟩:=okWide_struct underlying45 hv;obtain⟨fuel,hf⟩:=h;obtain⟨l⟩:=cs;obtain⟨m,hm,ho⟩:=aaQ (cs:=l) (y:=(d,p)) hf;exact⟨m,by rw[hm]; rfl,ho⟩
end
end
end Go.Proofs.YtapmgonflgahbaaGreatDoor
