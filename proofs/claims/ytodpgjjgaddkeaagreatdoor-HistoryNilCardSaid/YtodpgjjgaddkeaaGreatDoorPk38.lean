/- Package history: loading what was saved. The scene of -/
import Derived.Test.YtodpgjjgaddkeaaGreatDoorPk37
set_option maxHeartbeats 1600000
set_option maxRecDepth 100000
set_option linter.unusedVariables false
set_option linter.unusedSimpArgs false
namespace Go.Proofs.YtodpgjjgaddkeaaGreatDoor
open _root_.Go.Proofs.Tryz
section
open Go.RowKit En
variable{α:Type}{K:Nat}
theorem HD.alH{H:HD}{c c' b:Nat}{w:World}(h:H.mem K c b w)(hc:c'≤c):H.mem K c' b w:=aBz h fun i hi=>⟨azQ hc hi.1,hi.2⟩
theorem TG.back{base:Nat}{w:World}{s:aI}{v:Value}{er:Int}(hK:K≤5000)(hs:dI K w s)(hv:s.key.valid=true)(h:TG base w (fO.app (dU s.key)) v er):er=0∧∃t:aI,v=t.v∧Sx.aU base (fun W=>dI 5000 W t) w∧t.key=s.key:=by
 rcases h with ⟨h0,t,h1,h2,h3,h4,h5⟩ | ⟨h0,h1,⟨h2,h3⟩ | ⟨h2,h3,h4⟩ | ⟨h2,h3,h4⟩⟩
 ·exact⟨h0,t,h1,h2,((WI (hs.up hK (by decide)) (az8 h2) hv h3 [] [] (by rw[rC h5])).1).symm⟩
 ·rw[nS]at h3; omega
 ·exact absurd rfl (h4 _)
 exact absurd rfl (h4 _ _ s hs hv)
theorem TM.back{base:Nat}{w:World}{e:bn}{v:Value}{er:Int}(hK:K≤5000)(hs:iF K w e)(hm:fD e.key=false)(hv:ji e.key=true→e.key.node.chk=0)(h:TM base w (fO.app (jW e.key)) v er):er=0∧∃t:bn,v=t.v∧Sx.aU base (fun W=>iF 5000 W t) w∧t.key=e.key:=by
 rcases h with ⟨h0,t,h1,h2,h3,h4,h5,h6⟩ | ⟨h0,h1,⟨h2,h3⟩ | ⟨h2,h3,h4⟩ | ⟨h2,h3,h4⟩⟩
 ·exact⟨h0,t,h1,h2,(abk (hs.up hK (by decide)) (az8 h2) hm h3 hv h4 (rC h6)).symm⟩
 ·rw[nS]at h3; omega
 ·exact absurd rfl (h4 _)
 exact absurd rfl (h4 _ _ e hs hm hv)
theorem ahy{l m:List UInt8}{k:Int}(h:Ver (fO.app l) m k):k=0∧m=l:=by
 rcases h with ⟨-,h⟩ | ⟨-,-,h⟩ | ⟨h,h2⟩
 ·rw[nS]at h; omega
 ·exact absurd rfl (h l)
 exact⟨h,(rC h2).symm⟩
theorem aff{f:FuncId}{args:Array Value}{w:World}{v v':Value}(h:Calls prog f args w fun e w'=>e = .returned v∧w=w')(hv:v=v'):Calls prog f args w fun e w'=>e = .returned v'∧w=w':=hv▸h
theorem Y2{w:World}{s:aI}(h:dI K w s)(hg:dO w)(hlim:∀n∈s.ns,n.lim)(hv:s.key.valid=true) :
  Calls prog 25 #[s.v] w fun e w'=>∃(b:Nat) (H:HD),e = .returned (.tuple #[.q b 0,.i 0])∧w.heap.size≤b∧Bx w' b H.cells.toArray∧H.mem K w.heap.size b w'∧(H.Ok K∧H.key=⟨[s.key],[],0⟩)∧Ext w w':=
 (ae7 h hg hlim).mono fun e w' h=>by
  rcases h with ⟨h1,-⟩ | ⟨-,h⟩
  ·rw[hv]at h1; cases h1
  ·exact h
theorem alI{j:Nat}(h:j≤1000000):Value.int .u64 (IntKind.u64.wrap ((j:Int)+1)) = .int .u64 ((j+1:Nat):Int):=wrap_u64 (n:=j+1) (by omega)
theorem alJ{n:Nat}(h:n≤1000000):Value.i (IntKind.i64.wrap (n:Int)) = .i n:=by
 have:IntKind.i64.wrap (n:Int)=(n:Int):=by rw[aBX]; omega
 rw[this]
def HK.upto(h:HK)(j:Nat):HK:=⟨h.ss.take (j+1),h.es.take j,j⟩
theorem HK.Ok.afg{h:HK}(o:h.Ok){j:Nat}{e:dw}(he:h.es[j]?=some e):(h.upto j).app e=(h.upto (j+1),0):=by
 have:=(List.getElem?_eq_some_iff.1 he).1;have:=o.most;unfold HK.app;rw[azu (show ¬(h.upto j).k=256 from by show ¬j=256; omega)];exact HK.abq o.hs he
theorem HK.Ok.upto_all{h:HK}(o:h.Ok):(⟨(h.upto h.es.length).ss,(h.upto h.es.length).es,h.k⟩:HK)=h:=by
 unfold HK.upto;simp only;rw[aAh (by rw[o.hs.len]; exact azx _),aAh (azx _)]
theorem HK.Ok.abv{h:HK}(o:h.Ok):(⟨[(h.ss[0]?).getD .zero],[],0⟩:HK)=h.upto 0:=by
 have hl:=o.hs.len;unfold HK.upto;cases hs:h.ss with
 | nil=>rw[hs]at hl; simp at hl
 | cons s r=>rfl
theorem HD.Ok.auQ{H G:HD}(h:H.Ok K)(k:Nat)(hk:(⟨H.key.ss,H.key.es,k⟩:HK)=G.key)(hG:G.key.Ok):HD.Ok K ⟨H.sa,H.sc,H.ss,H.ea,H.ec,H.es,k⟩:=⟨(show(⟨H.key.ss,H.key.es,k⟩:HK).Ok from hk▸hG),h.s,h.e⟩
set_option maxRecDepth 100000 in
set_option maxHeartbeats 3200000 in
theorem abw{P:dw→Prop}(hA:ApC P){w:World}{v:Value}{H:HD}(hPe:∀e∈H.key.es,P e)(hv:jr w v H.key.bytes)(hok:H.Ok K)(hK:K≤5000)(hrow:H.row K w)(hg:dO w) :
  Calls prog 24 #[v] w fun r w'=>∃(b:Nat) (G:HD),r = .returned (.tuple #[.q b 0,.i 0])∧w.heap.size≤b∧Bx w' b G.cells.toArray∧G.mem 5000 w.heap.size b w'∧G.Ok 5000∧G.key=H.key∧Ext w w':=by
 have Pz:=hok.k;have hby:H.key.bytes=fO.app (hB ((H.key.ss[0]?).getD .zero) H.key.k H.key.es):=rfl;have h0z:=Pz.abv;have hpos:0<H.ss.length:=by have:=hok.len; omega
 obtain⟨s0,hs0⟩:∃z,H.ss[0]=z:=⟨_,rfl⟩;have ahz:s0∈H.ss:=hs0▸azZ hpos;have afh:(H.key.ss[0]?).getD .zero=s0.key:=by unfold HD.key; simp only[List.getElem?_map,List.getElem?_eq_getElem hpos,hs0]; rfl
 have hso:=hrow.1.2 s0 ahz;have hsv:=hok.val ahz;have hsl2:∀n∈s0.ns,n.lim:=fun n hn=>(hok.s s0 ahz n hn).2;have hsl:=hok.aiK ahz;have heo:=hrow.2.2;have hel:=hok.aiJ;have apO:∀e∈H.key.es,∃x,x∈H.es∧x.key=e:=fun e he=>by obtain⟨x,h1,h2⟩:=azX.1 he; exact⟨x,h1,h2⟩
 have aiM:H.key.k≤256:=azQ Pz.k Pz.most;have Y3:=Pz.most;have hkn:=Pz.k;obtain⟨hk,hhk⟩:∃z,z=H.key:=⟨_,rfl⟩;rw[←hhk]at hPe hv Pz hby h0z afh hel apO aiM Y3 hkn;obtain⟨Uy,alK⟩:∃z,z=s0.key:=⟨_,rfl⟩;rw[←alK]at afh hsl;rw[afh]at hby h0z;have hlL:(hB Uy hk.k hk.es).length≤100000000000:=azQ (afc hsl hel Y3) (by decide);have hl2:=afc (k:=hk.k) hsl hel Y3;refine ay3 func24 ntmps24 fun S=>aze S (Tf (hv.below S.E) (by rw[hby,nS]; omega)) ?_;rintro e u ⟨v1,m1,er1,rfl,hin,E3,abb⟩;rw[hby]at abb;obtain⟨rfl,rfl⟩:=ahy abb;obtain⟨c1,hc1⟩:∃z:Nat,z=u.heap.size:=⟨_,rfl⟩;have hin1:=alF hin;rw[←hc1]at hin1;obtain⟨a1,q1,rfl⟩:=hin.shape;refine⟨_,rfl,E3,fun S=>?_⟩;refine ay2 S fun u b4 E5 hb6 S=>azb S 0 rfl (fun u C7 S=>?_);have E8:=ay5 E5 C7;refine azg S fun S=>ay2 S fun u b12 Es Z9 S=>ay2 S fun u b15 ED vk S=>azb S 1 rfl (fun u C18 S=>?_);have Kv:=ay5 (Ext.trans' E8 (Ext.trans' Es ED)) C18 (by have:=E8.size; omega);refine azb S 0 rfl (fun u yG S=>?_);have BU:=ay5 Kv yG (by have:=(Ext.trans' E8 Es).size; omega);have hcb:c1≤b12∧c1≤b15:=by have h1:=E8.size; have h2:=Es.size; omega
 have S:=S.fl;have hne:b12≠b15∧b4≠b12∧b4≠b15:=by have h:=S.apart; simp only[aAi,aAF,aBB,azG,not_or]at h; exact⟨fun e=>h.1.1 e.symm,fun e=>h.2.1.1 e.symm,fun e=>h.1.2.1 e.symm⟩
 have S:=S.fl;refine Sx.Fv S 1 0 (by decide) rfl rfl (MG (v := .slice a1 (hB Uy hk.k hk.es).length q1) (i:=0) (j:=(fQ (fO.app (dU Uy))).length) S.E (S.kG 2) (S.kG 1) (S.kG 0) (S.old 1) (S.old 0) hne.1 hne.2.1 hne.2.2 (eF (az8 ((azT hin1 BU)))) hlL (afd hsl)) ?_;rintro e u ⟨x25,auR,rfl,hx25,⟨e125,apP,auS⟩,auT,apQ,auU⟩;refine⟨_,auR,_,_,rfl,⟨e125,apP,auS⟩,⟨auT,apQ,auU⟩,fun S=>?_⟩;have S:=S.fl;have Un:=ay5 BU apP (by have:=E8.size; omega);have E27:=ay5 Un apQ (by have:=(Ext.trans' E8 Es).size; omega);have zs0:=(S.bx 0).1;have zs1:=(S.bx 1).1;have zs2:=(S.bx 2).1;refine aze S (Dn (dO.below hg S.E) hx25 hsl) ?_;rintro e u ⟨v2,er2,rfl,hds,Ve⟩;rw[alK]at hds;obtain⟨rfl,s1,rfl,hs1,hk1⟩:=TG.back hK (hso.below (Ext.trans' S.E Ve)) hsv hds;refine⟨_,rfl,Ve,fun S=>?_⟩;refine ay2 S fun u b29 E30 ayT S=>ay4 S 0 rfl (fun u C32 S=>?_);have E33:=ay5 (Ext.trans' E27 (Ext.trans' Ve E30)) C32 (by have:=(Ext.trans' E27 Ve).size; omega);have E34:=ay5 E30 C32;refine adr S 7 [37,38] [.mem 1 0] fun S=>azg S (fun S=>?_);have S:=S.fl;refine Sx.Fv S 2 1 (by decide) rfl rfl (TS (v := .slice a1 (hB Uy hk.k hk.es).length q1) (i:=(fQ (fO.app (dU Uy))).length) (j:=((fQ (fO.app (dU Uy))).length+(dV 10 hk.k).length)) S.E (S.kG 3) (S.kG 2) (S.kG 1) (S.old 2) (S.old 1) hne.1 hne.2.1 hne.2.2 (eF (az8 ((azT hin1 E33)))) (auM aiM)) ?_;rintro e u ⟨auV,rfl,⟨e138,c138,auW⟩,e238,alL,auX⟩;refine⟨_,auV,_,_,rfl,⟨e138,c138,auW⟩,⟨e238,alL,auX⟩,fun S=>?_⟩;have S:=S.fl;have Vj:=ay5 E33 c138 (by have:=E8.size; omega);have GI:=(Sx.On.ch ((azT hs1 E34)) c138 (by omega));have PX:=ay5 Vj alL (by have:=(Ext.trans' E8 Es).size; omega);have Ci:=(Sx.On.ch GI alL (by omega));have S:=S.fl;refine Sx.Fv S 2 1 (by decide) rfl rfl (TS (v := .slice a1 (hB Uy hk.k hk.es).length q1) (i:=((fQ (fO.app (dU Uy))).length+(dV 10 hk.k).length)) (j:=(hP Uy hk.k hk.es.length []).length) S.E (S.kG 3) (S.kG 2) (S.kG 1) (S.old 2) (S.old 1) hne.1 hne.2.1 hne.2.2 (eF (az8 ((azT hin1 PX)))) (auN Y3)) ?_;rintro e u ⟨auY,rfl,⟨e143,c143,auZ⟩,e243,alM,au0⟩;refine⟨_,auY,_,_,rfl,⟨e143,c143,auZ⟩,⟨e243,alM,au0⟩,fun S=>?_⟩;have S:=S.fl;have XZ:=ay5 PX c143 (by have:=E8.size; omega);have qK:=(Sx.On.ch Ci c143 (by omega));have E46:=ay5 XZ alM (by have:=(Ext.trans' E8 Es).size; omega);have Q9:=(Sx.On.ch qK alM (by omega));have hold:=fun p hp=>(S.own p hp).1.1;have oN:=S.E.size;have zn0:=(S.bx 0).1;have zn1:=(S.bx 1).1;have zn2:=(S.bx 2).1;have zn3:=(S.bx 3).1;obtain⟨c0,hc0⟩:∃z:Nat,z=u.heap.size:=⟨_,rfl⟩;refine adr S 3 [] [.mem 0 0] fun S=>aze S (Y2 (az8 Q9) (dO.below hg S.E) (fun z hz=>ae4 (azH bD.ns hk1) (fun z hz=>((az8 Q9).2.2.2 z hz).2) hsl2 z hz) (hk1▸hsv)) ?_;rintro e u ⟨bh,H1,rfl,hb1,hX1,hm1,⟨hok1,au1⟩,X0⟩;rw[←hc0]at hb1 hm1 hold oN zn0 zn1 zn2 zn3;refine⟨_,rfl,X0,fun S=>?_⟩;have S:=S.adopt (A:=H1.cells) hX1 (by omega) (fun p hp=>by have:=hold p hp; omega) (fun m hm=>by cases hm);refine adr S 20 [52,53,56,57,58,61,62] [.mem 2 0,.re 58 (.bool ((hk.es.length:Int)<(hk.k:Int))) (.z),.re 62 (.bool ((256:Int)<(hk.es.length:Int))) (.z)] (hk:=⟨(azH Value.bool (aA7 (by omega))),(azH Value.bool (aA7 (by omega))),trivial⟩) fun S=>azg S fun S=>azm S (ι:=Nat×HD) (fun p a' w'=>(p.2.key=hk.upto p.1∧p.2.Ok 5000∧p.2.mem 5000 c0 bh w'∧Sx.On (fun i=>i<c1) (fun W=>jr W (.slice a1 (hB Uy hk.k hk.es).length q1) (hB Uy hk.k hk.es)) w'∧p.1≤hk.es.length)∧Sx.St w a' w' 106 [(0,v),(2,(.pointer none)),(3,.i 0),(4,.q b4 0),(5,.i 0),(6,.q b12 0),(7,.q b15 0),(8,.func (.func 44) #[] #[.q b4 0,.q b12 0,.q b15 0]),(9,.func (.func 46) #[] #[.q b4 0,.q b12 0,.q b15 0]),(10,.q b29 0),(11,.int .u64 (hk.k:Int)),(12,.int .u64 (hk.es.length:Int)),(13,.q bh 0),(64,.int .u64 (hk.es.length:Int)),(65,.int .u64 (p.1:Int))] [(bh,p.2.cells),(b29,s1.cells),(b15,[.bool true]),(b12,[.i (((hP Uy hk.k hk.es.length (hk.es.take p.1)).length:Nat):Int)]),(b4,[.slice a1 ((hB Uy hk.k hk.es).length) q1])] []) (fun p=>hk.es.length-p.1) (0,H1) (fun S=>⟨⟨au1.trans (by rw[hk1,←alK]; exact h0z),hok1,hm1,((azT hin1 (Ext.trans' E46 X0))),azB _⟩,S.uU⟩) ?_;rintro⟨j,H2⟩ ac u ig eU hI;try dsimp only at hI
 obtain⟨hR,S⟩:=hI;refine azn S (fun S=>?_);have oN:=S.E.size;refine ay0 S (decide ((j:Int)<(hk.es.length:Int))) (fun alN S=>?_) (fun alN S=>?_)
 ·have hj:j<hk.es.length:=by have:=azN alN; omega
  obtain⟨ek,hek⟩:∃z,hk.es[j]?=some z:=⟨_,List.getElem?_eq_getElem hj⟩;have heb:=hel _ (List.mem_of_getElem? hek);have S:=S.fl;refine Sx.Fv S 3 2 (by decide) rfl rfl (MG (v := .slice a1 (hB Uy hk.k hk.es).length q1) (i:=(hP Uy hk.k hk.es.length (hk.es.take j)).length) (j:=(hP Uy hk.k hk.es.length (hk.es.take (j+1))).length) S.E (S.kG 4) (S.kG 3) (S.kG 2) (S.old 3) (S.old 2) hne.1 hne.2.1 hne.2.2 (eF (az8 hR.2.2.2.1)) hlL (auO hek heb)) ?_;rintro e u ⟨x59,au2,rfl,au3,⟨au4,c159,x159⟩,e259,alO,au5⟩;refine⟨_,au2,_,_,rfl,⟨au4,c159,x159⟩,⟨e259,alO,au5⟩,fun S=>?_⟩;have S:=S.fl;have Ou:=(Sx.On.ch hR.2.2.1 c159 (by omega));have Bv:=(Sx.On.ch hR.2.2.2.1 c159 (by omega));have Bf:=(Sx.On.ch Ou alO (by omega));have wC:=(Sx.On.ch Bv alO (by omega));obtain⟨e0,he0,rfl⟩:=apO _ (List.mem_of_getElem? hek);have hem:=Pz.hs.enc (List.mem_of_getElem? hek);refine aze S (EN (dO.below hg S.E) au3 (Dp hem.2)) ?_;rintro e u ⟨v4,er4,rfl,hde,E64⟩;obtain⟨rfl,e1,rfl,he1,hk4⟩:=TM.back hK ((heo _ he0).below (Ext.trans' S.E E64)) hem.1 hem.2 hde;refine⟨_,rfl,E64,fun S=>?_⟩;refine ay2 S fun u b65 E66 ayU S=>ay4 S 0 rfl (fun u C68 S=>?_);have E69:=ay5 (Ext.trans' E64 E66) C68 (by have:=E64.size; omega);have E70:=ay5 (Ext.trans' E64 E66) C68 (by have:=E64.size; omega);have E71:=ay5 E66 C68;refine adr S 10 [76,77,80,81,83] [.mem 3 0,.mem 0 0] (fun S=>?_);have S:=S.fl;have hap:=Pz.afg hek;refine ay7 S fun S=>Sx.alE S 1 (some 82) rfl (Ad hA (by rw[hk4]; exact hPe _ (List.mem_of_getElem? hek)) S.E (S.kG 1) (S.old 1) hb1 hR.2.1 ((azT Bf E69)) (dO.below hg S.E) (az8 ((azT he1 E71))) (YW (azH dw.node hk4) (az8 ((azT he1 E71))).2.2.2.2.2 (hok.e _ he0).2)) ?_;rintro e u ⟨H3,cd,rfl,ahA,alP,hm3,hE3,hC3,hX3⟩;rw[hR.1,hk4,hap,azA]at ahA;obtain⟨ahA,rfl⟩:=ahA;refine⟨_,_,rfl,hE3,hC3,hX3,fun ac S=>?_⟩;refine azs S (fun S=>?_);have WU:=(Sx.On.ch ((azT Bf E69)) hC3 (by omega));have V9:=(Sx.On.ch ((azT wC E70)) hC3 (by omega));refine adr S 2 [76,77,80,81,83] [] fun S=>azg S fun S=>adr S 2 [] [.re 85 (.int .u64 (IntKind.u64.wrap ((j:Int)+1))) (.int .u64 (((j+1):Nat):Int))] (hk:=⟨(alI (by omega)),trivial⟩) fun S=>azo S ig (fun S=>?_);exact eU _ _ ((j+1),H3) ⟨⟨ahA,alP,hm3,V9,hj⟩,(S.iH 1).uU⟩ (by show hk.es.length-(j+1)<hk.es.length-j; omega)
 refine adr S 6 [] [.re 88 (.i (IntKind.i64.wrap (hk.k:Int))) (.i hk.k)] (hk:=⟨(alJ (by omega)),trivial⟩) fun S=>azb S 0 rfl (fun u yG S=>?_);have Oi:=(Sx.On.ch hR.2.2.1 yG (by omega));have Oj:=(Sx.On.ch hR.2.2.2.1 yG (by omega));obtain rfl:j=hk.es.length:=by have:=azR alN; have:=hR.2.2.2.2; omega
 have hkG:(⟨H2.sa,H2.sc,H2.ss,H2.ea,H2.ec,H2.es,hk.k⟩:HD).key=hk:=by have:=Pz.upto_all; rw[←hR.1]at this; exact this
 have ahB:(⟨H2.sa,H2.sc,H2.ss,H2.ea,H2.ec,H2.es,hk.k⟩:HD).Ok 5000:=HD.Ok.auQ hR.2.1 _ (G:=H) (hkG.trans hhk) hok.k;have hmG:(⟨H2.sa,H2.sc,H2.ss,H2.ea,H2.ec,H2.es,hk.k⟩:HD).mem 5000 c0 bh u:=Oi;refine aze S (MF (H:=(⟨H2.sa,H2.sc,H2.ss,H2.ea,H2.ec,H2.es,hk.k⟩:HD)) (S.kG 0) ahB hmG (dO.below hg S.E)) ?_;rintro e u ⟨v5,rfl,hov,E80⟩;have hmG:=azT hmG E80;refine⟨_,rfl,E80,fun S=>?_⟩;refine adr S 10 [100,101,103] [] fun S=>ay7 S fun S=>Sx.nO S (some 102) (azp (aff (kT _ _ _ _ _ (uI hov) (eF (hv.below S.E))) (by rw[hkG,aBd]))) ?_;rintro e u ⟨rfl,E82⟩;refine⟨_,rfl,E82,fun ac S=>?_⟩;refine azs S fun S=>adr S 2 [100,101,103] [] fun S=>azg S fun S=>Sx.KJ S (.q bh 0) (.i 0) (fun S=>?_);exact⟨bh,(⟨H2.sa,H2.sc,H2.ss,H2.ea,H2.ec,H2.es,hk.k⟩:HD),rfl,by omega,S.kG 0,HD.alH ((azT hmG E82)) (by omega),ahB,hkG.trans hhk,S.E⟩
end
section
structure Pg (n:aQ):Prop where
 c:n.chk=0
 i:n.id=1
 k:n.kind=1
 d:n.depth=0
def Ae(n:aQ)(c:bG):bD:=⟨2,1,c,[n]⟩
theorem Pg.valid{n:aQ}(h:Pg n)(c:bG):(Ae n c).valid=true:=by
 rw[bD.ni];refine⟨(by show(1:Int)≤2∧(2:Int)≤256∧(1:Int)≤1∧(1:Int)≤256; decide),(by show 1≤64; omega),?_,trivial⟩;exact DX.2 ⟨h.c,fun κ hκ=>(by cases hκ),by rw[h.d]; exact Int.le_refl _⟩
def I8(c:bG):dw:=⟨5,0,0,0,.zero,c⟩
theorem abx{s:bD}(h:s.valid=true)(c:bG):(⟨s.w,s.h,c,s.ns⟩:bD).valid=true:=by
 rw[bD.ni]at h ⊢;exact h
theorem aby{s:bD}(h:s.valid=true)(c:bG):fB s (I8 c)=(⟨s.w,s.h,c,s.ns⟩,0):=
 aaw h (by simp[dw.named,I8]) (by simp[mg,I8]) (abx h c)
theorem Pg.rm9{n:aQ}(h:Pg n)(c:bG):fB (Ae n c) (.remove 9)=(.zero,8):=by
 have hf:mZ (Ae n c).ns 9=none:=VN.2 fun κ hκ=>by rw[az0.1 hκ,h.i]; decide
 unfold fB;rw[azu (by rw[h.valid c]; decide),azu (by simp[dw.named,dw.remove])];have:mg (Ae n c).ns (.remove 9) = .error 8:=by
  unfold mg;rw[azu (by decide),azv (show(dw.remove 9).kind=2 from rfl),show(dw.remove 9).id=9 from rfl,hf]
 rw[this]
end
section
open Go.RowKit
variable{α:Type}{K:Nat}
def uS(id:Int)(t:bF):aj:=⟨id,1,0,t,none,0,[],0,255,1,false,false,none,0,[],0,none,0,[],aS.bare,none,0,[],dA.bare,0⟩
def apR:bG:=⟨0,0,0,0⟩
def afi(id:Int)(t:bF)(b:Nat):aj:=⟨id,3,0,t,none,0,[],0,0,0,false,false,none,0,[],0,none,0,[],aS.bare,none,0,[],⟨1,1,some ⟨b,0,none⟩,1,[apR]⟩,1⟩
def TI(w:World)(t:bF):Prop:=t.ok w∧t.Is qI
theorem TI.below{w w':World}{t:bF}(h:TI w t)(hE:Ext w w'):TI w' t:=⟨h.1.below hE,h.2⟩
theorem TI.dX{w w':World}{t:bF}{b:Nat}{A:Array Value}(h:TI w t)(hc:Ch b w w')(hx:Bx w b A)(hA:A.toList.all AL=true:=by rfl):TI w' t:=⟨h.1.dX hc hx hA,h.2⟩
theorem bF.Is.q{t:bF}{Q:Q6}(h:t.Is Q)(hn:Am Q):t.q=Q:=by
 obtain⟨n0,n1,n2,n3,n4,n5⟩:=hn;obtain⟨⟨a0,b0,c0,d0⟩,⟨a1,b1,c1,d1⟩,⟨a2,b2,c2,d2⟩,⟨a3,b3,c3,d3⟩,⟨a4,b4,c4,d4⟩,⟨a5,b5,c5,d5⟩⟩:=h;unfold bF.q;rw[KP a0 b0 c0 d0 n0,KP a1 b1 c1 d1 n1,KP a2 b2 c2 d2 n2,KP a3 b3 c3 d3 n3,KP a4 b4 c4 d4 n4,KP a5 b5 c5 d5 n5]
theorem bF.Is.fit{t:bF}{Q:Q6}{K:Nat}(h:t.Is Q)(hl:QF K Q):t.fit K:=by
 obtain⟨l0,l1,l2,l3,l4,l5⟩:=hl;obtain⟨h0,h1,h2,h3,h4,h5⟩:=h;exact⟨xE h0.2.1 h0.2.2.2 l0,xE h1.2.1 h1.2.2.2 l1,xE h2.2.1 h2.2.2.2 l2,xE h3.2.1 h3.2.2.2 l3,xE h4.2.1 h4.2.2.2 l4,xE h5.2.1 h5.2.2.2 l5⟩
def TU(w:World)(id kind:Int)(nd:aj):Prop:=
 (kind=1∧∃t,TI w t∧nd=uS id t)∨(kind=2∧∃t,TI w t∧nd=iK id t)∨(kind=3∧∃t b,TI w t∧Bx w b #[.u 0,.u 0,.u 0,.u 0]∧nd=afi id t b)∨((kind≠1∧kind≠2∧kind≠3)∧nd=bK)
theorem I9(w:World) :
  Calls prog 84 #[.i 1,.i 0,.i 0,.i 1,.agg Sx.zr.toArray,.agg Sx.zr.toArray] w fun e w'=>∃x,e = .returned x∧Bg w.heap.size w' x qI∧Ext w w':=by
 skip;refine ay3 func84 ntmps84 fun S=>ay6 S Sx.zr fun u b2 E3 hb4 S=>ay6 S Sx.zr fun u b5 E6 hb7 S=>ay6 S Sx.za fun u b8 E9 y8 S=>Sx.jc S 12 [(14,fun v w1=>dN w.heap.size w1 v (false,1,1)),(16,fun v w1=>dN w.heap.size w1 v (false,0,1)),(18,fun v w1=>dN w.heap.size w1 v (false,0,1)),(20,fun v w1=>dN w.heap.size w1 v (false,1,1)),(22,fun v w1=>dN w.heap.size w1 v q0),(24,fun v w1=>dN w.heap.size w1 v q0)] (fun r=>[.mem 2 0,.mem 1 0]) (fun x=>[x 14,x 16,x 18,x 20,x 22,x 24]) (fun x=>[(_,_,true,x 14,14),(_,_,true,x 16,16),(_,_,true,x 18,18),(_,_,true,x 20,20),(_,_,true,x 22,22),(_,_,true,x 24,24)]) [[],[],[],[],[],[]] (fun x=>[(14,x 14),(16,x 16),(18,x 18),(20,x 20),(22,x 22),(24,x 24)]) ⟨fun _ _ _ k h=>h.ext k,fun _ _ _ k h=>h.ext k,fun _ _ _ k h=>h.ext k,fun _ _ _ k h=>h.ext k,fun _ _ _ k h=>h.ext k,fun _ _ _ k h=>h.ext k,trivial⟩ (fun x=>⟨by intro u hC g F; exact(jf 1 _ (by decide)).mono fun e w2 h=>by obtain⟨y,rfl,hx,hb⟩:=h; exact⟨_,rfl,aA.mono hx ((Ext.trans' S.E hC)).size,hb⟩,by intro u hC g F; exact(jf 0 _ (by decide)).mono fun e w2 h=>by obtain⟨y,rfl,hx,hb⟩:=h; exact⟨_,rfl,aA.mono hx ((Ext.trans' S.E hC)).size,hb⟩,by intro u hC g F; exact(jf 0 _ (by decide)).mono fun e w2 h=>by obtain⟨y,rfl,hx,hb⟩:=h; exact⟨_,rfl,aA.mono hx ((Ext.trans' S.E hC)).size,hb⟩,by intro u hC g F; exact(jf 1 _ (by decide)).mono fun e w2 h=>by obtain⟨y,rfl,hx,hb⟩:=h; exact⟨_,rfl,aA.mono hx ((Ext.trans' S.E hC)).size,hb⟩,by intro u hC g F; exact(mW _ q0 1 _ (bI.uz▸bI.toQ (bI.gu _) (bI.iD 1)) (by decide)).mono fun e w2 h=>by obtain⟨y,rfl,hx,hb⟩:=h; exact⟨_,rfl,hx.mono ((Ext.trans' S.E hC)).size,hb⟩,by intro u hC g F; exact(mW _ q0 1 _ (bI.uz▸bI.toQ (bI.gu _) (bI.iD 1)) (by decide)).mono fun e w2 h=>by obtain⟨y,rfl,hx,hb⟩:=h; exact⟨_,rfl,hx.mono ((Ext.trans' S.E hC)).size,hb⟩,trivial⟩) (fun u x qE F S=>?_);obtain⟨ZV,F16,F18,F20,yM,F24,-⟩:=F;obtain⟨r0,e0⟩:=aA.iK ZV;rw[e0]at S ZV;try rw[e0]
 obtain⟨r1,e1⟩:=aA.iK F16;rw[e1]at S F16;try rw[e1]
 obtain⟨r2,e2⟩:=aA.iK F18;rw[e2]at S F18;try rw[e2]
 obtain⟨r3,e3⟩:=aA.iK F20;rw[e3]at S F20;try rw[e3]
 obtain⟨r4,e4⟩:=aA.iK yM;rw[e4]at S yM;try rw[e4]
 obtain⟨r5,e5⟩:=aA.iK F24;rw[e5]at S F24;try rw[e5]
 have Ju:=S.bx 0;refine azc S 0 (off:=0) (cs:=(r0.cells++r1.cells++r2.cells++r3.cells++r4.cells++r5.cells)) rfl (fun u C13 S=>?_);have oL:=aA.dX ZV C13 Ju;have Eu:=aA.dX F16 C13 Ju;have vC:=aA.dX F18 C13 Ju;have Gu:=aA.dX F20 C13 Ju;have oM:=aA.dX yM C13 Ju;have Cj:=aA.dX F24 C13 Ju;refine azf S 0 rfl (v := .agg (r0.cells++r1.cells++r2.cells++r3.cells++r4.cells++r5.cells).toArray) (fun S=>?_);exact⟨_,rfl,⟨⟨r0,r1,r2,r3,r4,r5⟩,rfl,oL,Eu,vC,Gu,oM,Cj⟩,S.E⟩
theorem EO(w:World) :
  Calls prog 52 #[] w fun e w'=>∃t:bF,e = .returned t.v∧TI w' t∧Ext w w':=by
 skip;refine ay3 func52 ntmps52 fun S=>ay6 S Sx.za fun u b2 E3 hb4 S=>aze S (I9 _) ?_;rintro e u ⟨x,rfl,hm,E6⟩;obtain⟨m,rfl,hm⟩:=hm;obtain⟨t,e,ho,hi⟩:=VG hm;rw[e];refine⟨_,rfl,E6,fun S=>?_⟩;have X8:=S.bx 0;refine azc S 0 (off:=0) (cs:=t.cells) rfl (fun u C7 S=>?_);have Fs9:=TI.dX (⟨ho,hi⟩:TI _ t) C7 X8;refine azf S 0 rfl (v:=t.v) (fun S=>?_);exact⟨t,rfl,Fs9,S.E⟩
theorem TI.fit{w:World}{t:bF}(h:TI w t)(hK:1≤K):t.fit K:=by
 obtain⟨h1,h2,h3,h4,h5,h6⟩:=h.2.fit ajI;exact⟨h1.mono hK,h2.mono hK,h3.mono hK,h4.mono hK,h5.mono hK,h6.mono hK⟩
theorem TU.ok{w:World}{id kind:Int}{nd:aj}(h:TU w id kind nd)(hi:I64 id)(hK:1≤K)(hK2:K≤10000):eu K w nd:=by
 rcases h with ⟨-,t,ht,rfl⟩ | ⟨-,t,ht,rfl⟩ | ⟨-,t,b,ht,hb,rfl⟩ | ⟨-,rfl⟩
 ·exact⟨⟨hi,(show I64 1 by decide),eY,ht.1,oP w,eY,(show I64 1 by decide),oP w,eY,kN w,aS.gy w,kN w,dA.gy w,eY⟩,ht.fit hK,fun p hp=>(by cases hp),fun p hp=>(by cases hp),hK,hK2⟩
 ·exact aal hi ht.1 (ht.fit (azx 1)) hK hK2
 ·refine⟨⟨hi,(show I64 3 by decide),eY,ht.1,oP w,eY,eY,oP w,eY,kN w,aS.gy w,kN w,⟨(show I64 1 by decide),(show I64 1 by decide),?_⟩,(show I64 1 by decide)⟩,ht.fit hK,fun p hp=>(by cases hp),fun p hp=>(by cases hp),hK,hK2⟩;refine⟨some ⟨b,0,none⟩,1,rfl,by decide,.inr ⟨b,0,rfl,hb.1,azx _,fun i hi j hj=>?_⟩⟩;obtain rfl:i=0:=by simp[afi]at hi; exact hi
  have:=hb.2.1 j;rw[show 0+0*4+j=j by omega,this];show _=(bG.cells apR)[j]?;rw[←List.getElem?_toArray];rfl
 exact gI w hK hK2
theorem TU.check{w:World}{id kind:Int}{nd:aj}(h:TU w id kind nd):(nd.checkN==0)=((((decide (1≤id))&&(decide (id≤1073741824)))&&(decide (1≤kind)))&&(decide (kind≤3))):=by
 have hv:qI.valid=true:=by decide
 have hd:pF qI.DL q0=false:=by decide
 have key:∀(n:aj),n.jP=[(false,2),((((decide (id<1))||(decide (1073741824<id)))||false)||false,6),(!n.t.q.valid,5),(pF n.t.q.DL q0,9),(false,10),(false,17)]→n.t.q=qI→n.qH=0→(n.checkN==0)=((decide (1≤id))&&(decide (id≤1073741824))):=by
  intro n hL hq ho;unfold aj.checkN;rw[hL,hq,hv,hd,ho];rw[aAM];by_cases h1:id<1
  ·simp[badL,mQ,h1]; omega
  by_cases h2:1073741824<id
  ·simp[badL,mQ,h2];try omega
  simp[badL,mQ,h1,h2]; omega
 rcases h with ⟨rfl,t,ht,rfl⟩ | ⟨rfl,t,ht,rfl⟩ | ⟨rfl,t,b,ht,-,rfl⟩ | ⟨⟨k1,k2,k3⟩,rfl⟩
 ·rw[key _ rfl (ht.2.q NU) rfl]; simp
 ·rw[key _ rfl (ht.2.q NU) rfl]; simp
 ·rw[key _ rfl (ht.2.q NU) rfl]; simp
 rw[NV];symm;rw[aAM];simp only[azM,azK,azI];omega
theorem ahC{w:World}{a b:aj}(h:eu K w a)(h':eu K w b):Calls prog 37 #[a.v,b.v] w fun e w'=>e = .returned (.bool (a.key=b.key))∧Ext w w':=by
 rw[←agA h.nrm h'.nrm]; exact MW h h'
set_option maxRecDepth 100000 in
set_option maxHeartbeats 3200000 in
theorem wS{w:World}{s t:aI}(h:dI K w s)(h':dI K w t) :
  Calls prog 16 #[s.v,t.v] w fun e w'=>e = .returned (.bool (s.key=t.key))∧Ext w w':=by
 have hmax:s.ns.length≤9223372036854775807:=h.2.2.1.len;refine ay3 func16 ntmps16 (fun S=>?_);obtain⟨a,cap,es⟩:∃a c,s.s = .slice a s.ns.length c:=⟨_,_,rfl⟩;have hr:=h.2.2.1;rw[es]at hr;obtain⟨d,cap',et⟩:∃a c,t.s = .slice a t.ns.length c:=⟨_,_,rfl⟩;have hr':=h'.2.2.1;rw[et]at hr';refine ay2 S fun u b2 E3 hb4 S=>ay2 S fun u b5 E6 hb7 S=>adr S 29 [] [.mem 1 0,.mem 0 0,.mem 1 1,.mem 0 1,.mem 1 2,.mem 0 2,.cmp .neq 40 (.tmp 20) (.tmp 22) (.agg #[.u (s.bg.r.toNat:Int),.u (s.bg.g.toNat:Int),.u (s.bg.b.toNat:Int),.u (s.bg.a.toNat:Int)]) (.agg #[.u (t.bg.r.toNat:Int),.u (t.bg.g.toNat:Int),.u (t.bg.b.toNat:Int),.u (t.bg.a.toNat:Int)]) (.bool (!decide (s.bg=t.bg))),.mem 1 6,.re 27 s.s (.slice a s.ns.length cap),.mem 0 6,.re 30 t.s (.slice d t.ns.length cap')] (hk:=⟨(aAt (fun _=>aj2 s.bg t.bg _) (by kernel_rfl)),es,et,trivial⟩) fun S=>ay0 S (((((s.w) != t.w)||((s.h) != t.h))||(!decide (s.bg=t.bg)))||(((s.ns.length:Int)) != (t.ns.length:Int))) (fun fJ S=>?_) (fun fJ S=>?_)
 ·refine apB S (.z) (fun S=>?_);exact⟨aN (amU fJ),S.E⟩
 refine azm S (ι:=Nat) (fun p a' w'=>p≤s.ns.length∧((keys s.ns).take p=(keys t.ns).take p)∧Sx.St w a' w' 53 [(0,s.v),(1,t.v),(2,.q b2 0),(3,.q b5 0),(4,.z),(5,.i p)] [(b5,t.cells),(b2,s.cells)] []) (fun p=>s.ns.length-p) (0) (fun S=>⟨azB _,rfl,S.uU⟩) ?_;rintro k ac u ig eU hI;try dsimp only at hI
 obtain⟨hk,hR,S⟩:=hI;refine azn S fun S=>adr S 5 [] [.mem 1 6,.re 36 s.s (.slice a s.ns.length cap)] (hk:=⟨es,trivial⟩) fun S=>ay0 S (decide ((k:Int)<(s.ns.length:Int))) (fun hc16 S=>?_) (fun hc16 S=>?_)
 ·have yP:k<s.ns.length:=by have:=azN hc16; omega
  obtain⟨b20,o21,rfl,oI,hx24,MS,Ze⟩:=az2 hr (fun _=>rfl) (k) yP;have S:=S.view0 MS Ze;have yQ:k<t.ns.length:=by have:=adI fJ; have:=azN hc16; omega
  obtain⟨b28,o29,rfl,y34,hx32,abL,abM⟩:=az2 hr' (fun _=>rfl) (k) yQ;have S:=S.view0 abL abM;refine azi S 12 [.mem 1 6,.re 42 s.s (.slice (some ⟨b20,o21,none⟩) s.ns.length cap),.idx k s.ns.length,.mem 3 0,.mem 0 6,.re 47 t.s (.slice (some ⟨b28,o29,none⟩) t.ns.length cap'),.idx k t.ns.length,.mem 2 0] [(_,_,true,.bool (oI.key=y34.key))] [(52,.bool (!(decide (oI.key=y34.key))))] ⟨fun u hC g=>ahC ((h.2.2.2 _ (hx24▸azZ yP)).below (Ext.trans' S.E hC)) ((h'.2.2.2 _ (hx32▸azZ yQ)).below (Ext.trans' S.E hC)),trivial⟩ (hk:=⟨es,yP,et,yQ,trivial⟩) fun u Kv S=>ay0 S (!(decide (oI.key=y34.key))) (fun qc S=>?_) (fun qc S=>?_)
  ·refine apB S (.z) (fun S=>?_);exact⟨aN (ah9 fJ (amT yP yQ hx24 hx32 qc)),S.E⟩
  refine adr S 3 [] [.re 40 (.i (IntKind.i64.wrap ((k:Int)+1))) (.i (k+1:Nat))] (hk:=⟨azj (by omega),trivial⟩) fun S=>azo S ig (fun S=>?_);exact eU _ _ (k+1) ⟨by omega,(agE yP yQ hR hx24 hx32 qc),S.uU⟩ (by show _-_<_-_; omega)
 refine apB S (.bool true) (fun S=>?_);exact⟨aN (ah9 fJ (aj3 (by have:=azR hc16; omega) (adI fJ) hR)),S.E⟩
end
end Go.Proofs.YtodpgjjgaddkeaaGreatDoor
