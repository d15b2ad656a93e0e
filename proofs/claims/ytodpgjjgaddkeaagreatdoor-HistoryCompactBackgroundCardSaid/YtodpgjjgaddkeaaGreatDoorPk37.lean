/- Package history: loading what was saved. The scene of -/
import Derived.Test.YtodpgjjgaddkeaaGreatDoorPk36
set_option maxHeartbeats 3200000
set_option maxRecDepth 100000
set_option linter.unusedVariables false
set_option linter.unusedSimpArgs false
namespace Go.Proofs.YtodpgjjgaddkeaaGreatDoor
open _root_.Go.Proofs.Tryz
section
open Go.RowKit En Go.Sx
variable{α:Type}{K:Nat}
theorem HD.al3{H:HD}{c c' b:Nat}{w:World}(h:H.mem K c b w)(hc:c'<=c):H.mem K c' b w:=aBu h λi hi=>⟨aAa hc hi.1,hi.2⟩
theorem Ul.back{base:Nat}{w:World}{s:aH}{v:Value}{er:Int}(hK:K<=5000)(hs:dL K w s)(hv:s.key.valid=true)(h:Ul base w (fP.app (dV s.key)) v er):er=0∧∃t:aH,v=t.v∧Sx.aY base (λW=>dL 5000 W t) w∧t.key=s.key:=by
 rcases h with ⟨h0,t,h1,h2,h3,h4,h5⟩ | ⟨h0,h1,⟨h2,h3⟩ | ⟨h2,h3,h4⟩ | ⟨h2,h3,h4⟩⟩
 .exact⟨h0,t,h1,h2,((Xe (hs.up hK O) (aAj h2) hv h3 [] [] (by rw[rO h5])).1).symm⟩
 .rw[nU]at h3; omega
 .exact absurd I (h4 _)
 exact absurd I (h4 _ _ s hs hv)
theorem Uo.back{base:Nat}{w:World}{e:aP}{v:Value}{er:Int}(hK:K<=5000)(hs:iy K w e)(hm:fF e.key=false)(hv:jk e.key=true->e.key.node.chk=0)(h:Uo base w (fP.app (kD e.key)) v er):er=0∧∃t:aP,v=t.v∧Sx.aY base (λW=>iy 5000 W t) w∧t.key=e.key:=by
 rcases h with ⟨h0,t,h1,h2,h3,h4,h5,h6⟩ | ⟨h0,h1,⟨h2,h3⟩ | ⟨h2,h3,h4⟩ | ⟨h2,h3,h4⟩⟩
 .exact⟨h0,t,h1,h2,(abD (hs.up hK O) (aAj h2) hm h3 hv h4 (rO h6)).symm⟩
 .rw[nU]at h3; omega
 .exact absurd I (h4 _)
 exact absurd I (h4 _ _ e hs hm hv)
variable{w:World}{v:Value}
theorem ahM{l m:List UInt8}{k:Int}(h:Ver (fP.app l) m k):k=0∧m=l:=by
 rcases h with ⟨-,h⟩ | ⟨-,-,h⟩ | ⟨h,h2⟩
 .rw[nU]at h; omega
 .exact absurd I (h l)
 exact⟨h,(rO h2).symm⟩
theorem afs{f:FuncId}{args:Array Value}{v':Value}(h:Calls prog f args w λe w'=>e = .returned v∧w=w')(hv:v=v'):Calls prog f args w λe w'=>e = .returned v'∧w=w':=hv▸h
theorem PY{s:aH}(h:dL K w s)(hg:dw w)(hlim:∀n∈s.ns,n.lim)(hv:s.key.valid=true) :
  Calls prog 25 #[s.v] w λe w'=>∃(b:Nat) (H:HD),e = .returned (.tuple #[.q b 0,.i 0])∧w.heap.size<=b∧Bx w' b H.cells.toArray∧H.mem K w.heap.size b w'∧(H.Ok K∧H.key=⟨[s.key],[],0⟩)∧Ext w w':=
 (afl h hg hlim).mono λe w' h=>by
  rcases h with ⟨h1,-⟩ | ⟨-,h⟩
  .rw[hv]at h1; cases h1
  .exact h
theorem al4{j:Nat}(h:j<=1000000):Value.int .u64 (IntKind.u64.wrap ((j:Int)+1)) = .int .u64 ((j+1:Nat):Int):=wrap_u64 (n:=j+1) Z
theorem al5{n:Nat}(h:n<=1000000):Value.i (IntKind.i64.wrap (n:Int)) = .i n:=by
 have:IntKind.i64.wrap (n:Int)=(n:Int):=by rw[aBv]; omega
 rw[this]
def HK.upto(h:HK)(j:Nat):HK:=⟨h.ss.take (j+1),h.es.take j,j⟩
theorem HK.Ok.aft{h:HK}(o:h.Ok){j:Nat}{e:bF}(he:h.es[j]?=some e):(h.upto j).app e=(h.upto (j+1),0):=by
 have:=(List.getElem?_eq_some_iff.1 he).1;have:=o.most;unfold HK.app;rw[azP (show ¬(h.upto j).k=256 from by show ¬j=256; omega)];exact HK.abI o.hs he
theorem HK.Ok.upto_all{h:HK}(o:h.Ok):(⟨(h.upto h.es.length).ss,(h.upto h.es.length).es,h.k⟩:HK)=h:=by
 unfold HK.upto;simp only;rw[aAv (by rw[o.hs.len]; exact azS _),aAv (azS _)]
theorem HK.Ok.abM{h:HK}(o:h.Ok):(⟨[(h.ss[0]?).getD .zero],[],0⟩:HK)=h.upto 0:=by
 have hl:=o.hs.len;unfold HK.upto;cases hs:h.ss with
 | nil=>rw[hs]at hl; simp at hl
 | cons s r=>rfl
theorem HD.Ok.ave{H A02:HD}(h:H.Ok K)(k:Nat)(hk:(⟨H.key.ss,H.key.es,k⟩:HK)=A02.key)(hG:A02.key.Ok):HD.Ok K ⟨H.sa,H.sc,H.ss,H.ea,H.ec,H.es,k⟩:=⟨(show(⟨H.key.ss,H.key.es,k⟩:HK).Ok from hk▸hG),h.s,h.e⟩
set_option maxRecDepth 100000 in
set_option maxHeartbeats 3200000 in
theorem abN{P:bF->Prop}(hA:ApC P){H:HD}(hPe:∀e∈H.key.es,P e)(hv:jv w v H.key.bytes)(hok:H.Ok K)(hK:K<=5000)(hrow:H.row K w)(hg:dw w) :
  Calls prog 24 #[v] w λr w'=>∃(b:Nat) (A02:HD),r = .returned (.tuple #[.q b 0,.i 0])∧w.heap.size<=b∧Bx w' b A02.cells.toArray∧A02.mem 5000 w.heap.size b w'∧A02.Ok 5000∧A02.key=H.key∧Ext w w':=by
 have PZ:=hok.k;have hby:H.key.bytes=fP.app (hB ((H.key.ss[0]?).getD .zero) H.key.k H.key.es):=I;have h0z:=PZ.abM;have hpos:0<H.ss.length:=by have:=hok.len; omega
 obtain⟨s0,hs0⟩:∃z,H.ss[0]=z:=⟨_,I⟩;have ahN:s0∈H.ss:=hs0▸aAl hpos;have afu:(H.key.ss[0]?).getD .zero=s0.key:=by unfold HD.key; simp only[List.getElem?_map,List.getElem?_eq_getElem hpos,hs0]; rfl
 have hso:=hrow.1.2 s0 ahN;have hsv:=hok.val ahN;have hsl2:∀n∈s0.ns,n.lim:=λn hn=>(hok.s s0 ahN n hn).2;have hsl:=hok.ai3 ahN;have heo:=hrow.2.2;have hel:=hok.ai2;have aqe:∀e∈H.key.es,∃x,x∈H.es∧x.key=e:=λe he=>by obtain⟨x,h1,h2⟩:=aAi.1 he; exact⟨x,h1,h2⟩
 have ai5:H.key.k<=256:=aAa PZ.k PZ.most;have Zp:=PZ.most;have hkn:=PZ.k;obtain⟨hk,hhk⟩:∃z,z=H.key:=⟨_,I⟩;rw[<-hhk]at hPe hv PZ hby h0z afu hel aqe ai5 Zp hkn;obtain⟨U4,al6⟩:∃z,z=s0.key:=⟨_,I⟩;rw[<-al6]at afu hsl;rw[afu]at hby h0z;have hlL:(hB U4 hk.k hk.es).length<=100000000000:=aAa (afp hsl hel Zp) O;have hl2:=afp (k:=hk.k) hsl hel Zp;refine azp func24 ntmps24 λS=>azz S (TW (hv.below S.E) (by rw[hby,nU]; omega)) ?_;rintro e u ⟨v1,m1,er1,rfl,hin,E3,abv⟩;rw[hby]at abv;obtain⟨rfl,rfl⟩:=ahM abv;obtain⟨c1,hc1⟩:∃z:Nat,z=u.heap.size:=⟨_,I⟩;have hin1:=al1 hin;rw[<-hc1]at hin1;obtain⟨a1,q1,rfl⟩:=hin.shape;refine⟨_,I,E3,λS=>?_⟩;refine azo S λu b4 E5 hb6 S=>azv S 0 I (λu C7 S=>?_);have E8:=azr E5 C7;refine azE S λS=>azo S λu b12 Dj VE S=>azo S λu b15 Af vN S=>azv S 1 I (λu C18 S=>?_);have KU:=azr (K00 E8 (K00 Dj Af)) C18 (by have:=E8.size; omega);refine azv S 0 I (λu y8 S=>?_);have Dc:=azr KU y8 (by have:=(K00 E8 Dj).size; omega);have hcb:c1<=b12∧c1<=b15:=by have h1:=E8.size; have h2:=Dj.size; omega
 have S:=S.fl;have hne:b12≠b15∧b4≠b12∧b4≠b15:=by have h:=S.apart; simp only[aAE,aA2,aBZ,az2,not_or]at h; exact⟨λe=>h.1.1 e.symm,λe=>h.2.1.1 e.symm,λe=>h.1.2.1 e.symm⟩
 have S:=S.fl;refine Gl S 1 0 O I I (Nj (v := .slice a1 (hB U4 hk.k hk.es).length q1) (i:=0) (j:=(fV (fP.app (dV U4))).length) S.E (S.kK 2) (S.kK 1) (S.kK 0) (S.old 1) (S.old 0) hne.1 hne.2.1 hne.2.2 (eH (aAj ((az3 hin1 Dc)))) hlL (afq hsl)) ?_;rintro e u ⟨x25,avf,rfl,hx25,⟨e125,aqf,avg⟩,avh,aqg,avi⟩;refine⟨_,avf,_,_,I,⟨e125,aqf,avg⟩,⟨avh,aqg,avi⟩,λS=>?_⟩;have S:=S.fl;have UU:=azr Dc aqf (by have:=E8.size; omega);have E27:=azr UU aqg (by have:=(K00 E8 Dj).size; omega);have zs0:=(S.bx 0).1;have zs1:=(S.bx 1).1;have zs2:=(S.bx 2).1;refine azz S (DY (dw.below hg S.E) hx25 hsl) ?_;rintro e u ⟨v2,er2,rfl,hds,E28⟩;rw[al6]at hds;obtain⟨rfl,s1,rfl,hs1,hk1⟩:=Ul.back hK (hso.below (K00 S.E E28)) hsv hds;refine⟨_,I,E28,λS=>?_⟩;refine azo S λu b29 E30 azc S=>azq S 0 I (λu C32 S=>?_);have E33:=azr (K00 E27 (K00 E28 E30)) C32 (by have:=(K00 E27 E28).size; omega);have E34:=azr E30 C32;refine adr S 7 [37,38] [.mem 1 0] λS=>azE S (λS=>?_);have S:=S.fl;refine Gl S 2 1 O I I (Uy (v := .slice a1 (hB U4 hk.k hk.es).length q1) (i:=(fV (fP.app (dV U4))).length) (j:=((fV (fP.app (dV U4))).length+(dW 10 hk.k).length)) S.E (S.kK 3) (S.kK 2) (S.kK 1) (S.old 2) (S.old 1) hne.1 hne.2.1 hne.2.2 (eH (aAj ((az3 hin1 E33)))) (ava ai5)) ?_;rintro e u ⟨avj,rfl,⟨e138,c138,avk⟩,e238,al7,avl⟩;refine⟨_,avj,_,_,I,⟨e138,c138,avk⟩,⟨e238,al7,avl⟩,λS=>?_⟩;have S:=S.fl;have Ro:=azr E33 c138 (by have:=E8.size; omega);have Dt:=(Sx.On.ch ((az3 hs1 E34)) c138 Z);have Qn:=azr Ro al7 (by have:=(K00 E8 Dj).size; omega);have Aa:=(Sx.On.ch Dt al7 Z);have S:=S.fl;refine Gl S 2 1 O I I (Uy (v := .slice a1 (hB U4 hk.k hk.es).length q1) (i:=((fV (fP.app (dV U4))).length+(dW 10 hk.k).length)) (j:=(hP U4 hk.k hk.es.length []).length) S.E (S.kK 3) (S.kK 2) (S.kK 1) (S.old 2) (S.old 1) hne.1 hne.2.1 hne.2.2 (eH (aAj ((az3 hin1 Qn)))) (avb Zp)) ?_;rintro e u ⟨avm,rfl,⟨e143,c143,avn⟩,e243,al8,avo⟩;refine⟨_,avm,_,_,I,⟨e143,c143,avn⟩,⟨e243,al8,avo⟩,λS=>?_⟩;have S:=S.fl;have Yq:=azr Qn c143 (by have:=E8.size; omega);have qU:=(Sx.On.ch Aa c143 Z);have E46:=azr Yq al8 (by have:=(K00 E8 Dj).size; omega);have Kt:=(Sx.On.ch qU al8 Z);have hold:=λp hp=>(S.own p hp).1.1;have jZ:=S.E.size;have zn0:=(S.bx 0).1;have zn1:=(S.bx 1).1;have zn2:=(S.bx 2).1;have zn3:=(S.bx 3).1;obtain⟨c0,hc0⟩:∃z:Nat,z=u.heap.size:=⟨_,I⟩;refine adr S 3 [] [.mem 0 0] λS=>azz S (PY (aAj Kt) (dw.below hg S.E) (λz hz=>afi (az0 aX.ns hk1) (λz hz=>((aAj Kt).2.2.2 z hz).2) hsl2 z hz) (hk1▸hsv)) ?_;rintro e u ⟨bh,H1,rfl,hb1,hX1,hm1,⟨hok1,avp⟩,E49⟩;rw[<-hc0]at hb1 hm1 hold jZ zn0 zn1 zn2 zn3;refine⟨_,I,E49,λS=>?_⟩;have S:=S.adopt (A:=H1.cells) hX1 Z (λp hp=>by have:=hold p hp; omega) (λm hm=>by cases hm);refine adr S 20 [52,53,56,57,58,61,62] [.mem 2 0,.re 58 (.bool ((hk.es.length:Int)<(hk.k:Int))) (.z),.re 62 (.bool ((256:Int)<(hk.es.length:Int))) (.z)] (hk:=⟨(az0 Value.bool (aBp Z)),(az0 Value.bool (aBp Z)),G⟩) λS=>azE S λS=>azI S (ι:=Nat×HD) (λp a' w'=>(p.2.key=hk.upto p.1∧p.2.Ok 5000∧p.2.mem 5000 c0 bh w'∧Sx.On (λi=>i<c1) (λW=>jv W (.slice a1 (hB U4 hk.k hk.es).length q1) (hB U4 hk.k hk.es)) w'∧p.1<=hk.es.length)∧Sx.St w a' w' 106 [(0,v),(2,(.pointer none)),(3,.i 0),(4,.q b4 0),(5,.i 0),(6,.q b12 0),(7,.q b15 0),(8,.func (.func 44) #[] #[.q b4 0,.q b12 0,.q b15 0]),(9,.func (.func 46) #[] #[.q b4 0,.q b12 0,.q b15 0]),(10,.q b29 0),(11,.int .u64 (hk.k:Int)),(12,.int .u64 (hk.es.length:Int)),(13,.q bh 0),(64,.int .u64 (hk.es.length:Int)),(65,.int .u64 (p.1:Int))] [(bh,p.2.cells),(b29,s1.cells),(b15,[.bool true]),(b12,[.i (((hP U4 hk.k hk.es.length (hk.es.take p.1)).length:Nat):Int)]),(b4,[.slice a1 ((hB U4 hk.k hk.es).length) q1])] []) (λp=>hk.es.length-p.1) (0,H1) (λS=>⟨⟨avp.trans (by rw[hk1,<-al6]; exact h0z),hok1,hm1,((az3 hin1 (K00 E46 E49))),azZ _⟩,S.qM⟩) ?_;rintro⟨j,H2⟩ ac u gQ eu hI;try dsimp only at hI
 obtain⟨hR,S⟩:=hI;refine azJ S (λS=>?_);have jZ:=S.E.size;refine azm S (decide ((j:Int)<(hk.es.length:Int))) (λal9 S=>?_) (λal9 S=>?_)
 .have hj:j<hk.es.length:=by have:=az9 al9; omega
  obtain⟨ek,hek⟩:∃z,hk.es[j]?=some z:=⟨_,List.getElem?_eq_getElem hj⟩;have heb:=hel _ (List.mem_of_getElem? hek);have S:=S.fl;refine Gl S 3 2 O I I (Nj (v := .slice a1 (hB U4 hk.k hk.es).length q1) (i:=(hP U4 hk.k hk.es.length (hk.es.take j)).length) (j:=(hP U4 hk.k hk.es.length (hk.es.take (j+1))).length) S.E (S.kK 4) (S.kK 3) (S.kK 2) (S.old 3) (S.old 2) hne.1 hne.2.1 hne.2.2 (eH (aAj hR.2.2.2.1)) hlL (avc hek heb)) ?_;rintro e u ⟨x59,avq,rfl,avr,⟨avs,c159,x159⟩,e259,ama,avt⟩;refine⟨_,avq,_,_,I,⟨avs,c159,x159⟩,⟨e259,ama,avt⟩,λS=>?_⟩;have S:=S.fl;have IC:=(Sx.On.ch hR.2.2.1 c159 Z);have Cm:=(Sx.On.ch hR.2.2.2.1 c159 Z);have BU:=(Sx.On.ch IC ama Z);have wU:=(Sx.On.ch Cm ama Z);obtain⟨e0,he0,rfl⟩:=aqe _ (List.mem_of_getElem? hek);have hem:=PZ.hs.enc (List.mem_of_getElem? hek);refine azz S (Fj (dw.below hg S.E) avr (DZ hem.2)) ?_;rintro e u ⟨v4,er4,rfl,hde,E64⟩;obtain⟨rfl,e1,rfl,he1,hk4⟩:=Uo.back hK ((heo _ he0).below (K00 S.E E64)) hem.1 hem.2 hde;refine⟨_,I,E64,λS=>?_⟩;refine azo S λu b65 E66 azd S=>azq S 0 I (λu C68 S=>?_);have E69:=azr (K00 E64 E66) C68 (by have:=E64.size; omega);have E70:=azr (K00 E64 E66) C68 (by have:=E64.size; omega);have E71:=azr E66 C68;refine adr S 10 [76,77,80,81,83] [.mem 3 0,.mem 0 0] (λS=>?_);have S:=S.fl;have hap:=PZ.aft hek;refine azw S λS=>al0 S 1 (some 82) I (oJ hA (by rw[hk4]; exact hPe _ (List.mem_of_getElem? hek)) S.E (S.kK 1) (S.old 1) hb1 hR.2.1 ((az3 BU E69)) (dw.below hg S.E) (aAj ((az3 he1 E71))) (Zl (az0 bF.node hk4) (aAj ((az3 he1 E71))).2.2.2.2.2 (hok.e _ he0).2)) ?_;rintro e u ⟨H3,cd,rfl,ahO,P5,Xl,hE3,hC3,hX3⟩;rw[hR.1,hk4,hap,azW]at ahO;obtain⟨ahO,rfl⟩:=ahO;refine⟨_,_,I,hE3,hC3,hX3,λac S=>?_⟩;refine U3 S (λS=>?_);have Xp:=(Sx.On.ch ((az3 BU E69)) hC3 Z);have WH:=(Sx.On.ch ((az3 wU E70)) hC3 Z);refine adr S 2 [76,77,80,81,83] [] λS=>azE S λS=>adr S 2 [] [.re 85 (.int .u64 (IntKind.u64.wrap ((j:Int)+1))) (.int .u64 (((j+1):Nat):Int))] (hk:=⟨(al4 Z),G⟩) λS=>azG S gQ (λS=>?_);exact eu _ _ ((j+1),H3) ⟨⟨ahO,P5,Xl,WH,hj⟩,(S.gW 1).qM⟩ (by show hk.es.length-(j+1)<hk.es.length-j; omega)
 refine adr S 6 [] [.re 88 (.i (IntKind.i64.wrap (hk.k:Int))) (.i hk.k)] (hk:=⟨(al5 Z),G⟩) λS=>azv S 0 I (λu y8 S=>?_);have Oz:=(Sx.On.ch hR.2.2.1 y8 Z);have OA:=(Sx.On.ch hR.2.2.2.1 y8 Z);obtain rfl:j=hk.es.length:=by have:=aAd al9; have:=hR.2.2.2.2; omega
 have hkG:(⟨H2.sa,H2.sc,H2.ss,H2.ea,H2.ec,H2.es,hk.k⟩:HD).key=hk:=by have:=PZ.upto_all; rw[<-hR.1]at this; exact this
 have ahP:(⟨H2.sa,H2.sc,H2.ss,H2.ea,H2.ec,H2.es,hk.k⟩:HD).Ok 5000:=HD.Ok.ave hR.2.1 _ (A02:=H) (hkG.trans hhk) hok.k;have hmG:(⟨H2.sa,H2.sc,H2.ss,H2.ea,H2.ec,H2.es,hk.k⟩:HD).mem 5000 c0 bh u:=Oz;refine azz S (Nh (H:=(⟨H2.sa,H2.sc,H2.ss,H2.ea,H2.ec,H2.es,hk.k⟩:HD)) (S.kK 0) ahP hmG (dw.below hg S.E)) ?_;rintro e u ⟨v5,rfl,hov,E80⟩;have hmG:=az3 hmG E80;refine⟨_,I,E80,λS=>?_⟩;refine adr S 10 [100,101,103] [] λS=>azw S λS=>OW S (some 102) (azL (afs (kY _ _ _ _ _ (uU hov) (eH (hv.below S.E))) (by rw[hkG,aBB]))) ?_;rintro e u ⟨rfl,E82⟩;refine⟨_,I,E82,λac S=>?_⟩;refine U3 S λS=>adr S 2 [100,101,103] [] λS=>azE S λS=>Qo S (.q bh 0) (.i 0) (λS=>?_);exact⟨bh,(⟨H2.sa,H2.sc,H2.ss,H2.ea,H2.ec,H2.es,hk.k⟩:HD),I,Z,S.kK 0,HD.al3 ((az3 hmG E82)) Z,ahP,hkG.trans hhk,S.E⟩
end
section
structure Pg (n:aQ):Prop where
 c:n.chk=0
 i:n.id=1
 k:n.kind=1
 d:n.depth=0
def xH(n:aQ)(c:bD):aX:=⟨2,1,c,[n]⟩
theorem Pg.valid{n:aQ}(h:Pg n)(c:bD):(xH n c).valid=true:=by
 rw[aX.kE];refine⟨(by show(1:Int)<=2∧(2:Int)<=256∧(1:Int)<=1∧(1:Int)<=256; decide),(by show 1<=64; omega),?_,G⟩;exact Et.2 ⟨h.c,λκ hκ=>(by cases hκ),by rw[h.d]; exact Int.le_refl _⟩
def pF(c:bD):bF:=⟨5,0,0,0,.zero,c⟩
theorem abO{s:aX}(h:s.valid=true)(c:bD):(⟨s.w,s.h,c,s.ns⟩:aX).valid=true:=by
 rw[aX.kE]at h |-;exact h
theorem Nk{s:aX}(h:s.valid=true)(c:bD):dA s (pF c)=(⟨s.w,s.h,c,s.ns⟩,0):=
 yj h (by simp[bF.named,pF]) (by simp[iI,pF]) (abO h c)
theorem Pg.rm9{n:aQ}(h:Pg n)(c:bD):dA (xH n c) (.remove 9)=(.zero,8):=by
 have hf:jM (xH n c).ns 9=none:=V8.2 λκ hκ=>by rw[aAn.1 hκ,h.i]; decide
 unfold dA;rw[azP (by rw[h.valid c]; decide),azP (by simp[bF.named,bF.remove])];have:iI (xH n c).ns (.remove 9) = .error 8:=by
  unfold iI;rw[azP O,azQ (show(bF.remove 9).kind=2 from rfl),show(bF.remove 9).id=9 from rfl,hf]
 rw[this]
theorem Pg.rm1{n:aQ}(h:Pg n)(c:bD):dA (xH n c) (.remove 1)=(⟨2,1,c,[]⟩,0):=by
 have hf:jM [n] 1=some 0:=by unfold jM; simp[h.i]
 have he:iI (xH n c).ns (.remove 1) = .ok []:=by
  unfold iI;rw[azP O,azQ (show(bF.remove 1).kind=2 from rfl),show(bF.remove 1).id=1 from rfl,show(xH n c).ns=[n]from rfl,hf];rfl
 exact yj (h.valid c) (by simp[bF.named,bF.remove]) he (by rw[aX.kE]; exact⟨(by show(1:Int)<=2∧(2:Int)<=256∧(1:Int)<=1∧(1:Int)<=256; decide),(by show 0<=64; omega),G⟩)
end
section
open Go.RowKit Go.Sx
variable{α:Type}{K:Nat}
def vC(id:Int)(t:bH):aj:=⟨id,1,0,t,none,0,[],0,255,1,false,false,none,0,[],0,none,0,[],aV.bare,none,0,[],dF.bare,0⟩
def aqh:bD:=⟨0,0,0,0⟩
def afv(id:Int)(t:bH)(b:Nat):aj:=⟨id,3,0,t,none,0,[],0,0,0,false,false,none,0,[],0,none,0,[],aV.bare,none,0,[],⟨1,1,some ⟨b,0,none⟩,1,[aqh]⟩,1⟩
def TI(w:World)(t:bH):Prop:=t.ok w∧t.Is qI
theorem TI.below{w w':World}{t:bH}(h:TI w t)(hE:Ext w w'):TI w' t:=⟨h.1.below hE,h.2⟩
theorem TI.dY{w w':World}{t:bH}{b:Nat}{A:Array Value}(h:TI w t)(hc:Ch b w w')(hx:Bx w b A)(hA:A.toList.all BG=true:=by rfl):TI w' t:=⟨h.1.dY hc hx hA,h.2⟩
theorem bH.Is.q{t:bH}{Q:Q6}(h:t.Is Q)(hn:Bj Q):t.q=Q:=by
 obtain⟨n0,n1,n2,n3,n4,n5⟩:=hn;obtain⟨⟨a0,b0,c0,d0⟩,⟨a1,b1,c1,d1⟩,⟨a2,b2,c2,d2⟩,⟨a3,b3,c3,d3⟩,⟨a4,b4,c4,d4⟩,⟨a5,b5,c5,d5⟩⟩:=h;unfold bH.q;rw[Lu a0 b0 c0 d0 n0,Lu a1 b1 c1 d1 n1,Lu a2 b2 c2 d2 n2,Lu a3 b3 c3 d3 n3,Lu a4 b4 c4 d4 n4,Lu a5 b5 c5 d5 n5]
theorem bH.Is.fit{t:bH}{Q:Q6}{K:Nat}(h:t.Is Q)(hl:Q5 K Q):t.fit K:=by
 obtain⟨l0,l1,l2,l3,l4,l5⟩:=hl;obtain⟨h0,h1,h2,h3,h4,h5⟩:=h;exact⟨yc h0.2.1 h0.2.2.2 l0,yc h1.2.1 h1.2.2.2 l1,yc h2.2.1 h2.2.2.2 l2,yc h3.2.1 h3.2.2.2 l3,yc h4.2.1 h4.2.2.2 l4,yc h5.2.1 h5.2.2.2 l5⟩
def Uz(w:World)(id kind:Int)(nd:aj):Prop:=
 (kind=1∧∃t,TI w t∧nd=vC id t)∨(kind=2∧∃t,TI w t∧nd=iM id t)∨(kind=3∧∃t b,TI w t∧Bx w b #[.u 0,.u 0,.u 0,.u 0]∧nd=afv id t b)∨((kind≠1∧kind≠2∧kind≠3)∧nd=bM)
variable{s t m:aH}{w:World}{e:aP}
theorem Jt(w:World) :
  Calls prog 84 #[.i 1,.i 0,.i 0,.i 1,.agg Sx.zr.toArray,.agg Sx.zr.toArray] w λe w'=>∃x,e = .returned x∧BX w.heap.size w' x qI∧Ext w w':=by
 skip;refine azp func84 ntmps84 λS=>azs S Sx.zr λu b2 E3 hb4 S=>azs S Sx.zr λu b5 E6 hb7 S=>azs S Sx.za λu b8 E9 zZ S=>jd S 12 [(14,λv w1=>dP w.heap.size w1 v (false,1,1)),(16,λv w1=>dP w.heap.size w1 v (false,0,1)),(18,λv w1=>dP w.heap.size w1 v (false,0,1)),(20,λv w1=>dP w.heap.size w1 v (false,1,1)),(22,λv w1=>dP w.heap.size w1 v q0),(24,λv w1=>dP w.heap.size w1 v q0)] (λr=>[.mem 2 0,.mem 1 0]) (λx=>[x 14,x 16,x 18,x 20,x 22,x 24]) (λx=>[(_,_,true,x 14,14),(_,_,true,x 16,16),(_,_,true,x 18,18),(_,_,true,x 20,20),(_,_,true,x 22,22),(_,_,true,x 24,24)]) [[],[],[],[],[],[]] (λx=>[(14,x 14),(16,x 16),(18,x 18),(20,x 20),(22,x 22),(24,x 24)]) ⟨λ_ _ _ k h=>h.ext k,λ_ _ _ k h=>h.ext k,λ_ _ _ k h=>h.ext k,λ_ _ _ k h=>h.ext k,λ_ _ _ k h=>h.ext k,λ_ _ _ k h=>h.ext k,G⟩ (λx=>⟨by intro u hC g F; exact(jg 1 _ O).mono λe w2 h=>by obtain⟨y,rfl,hx,hb⟩:=h; exact⟨_,I,aA.mono hx ((K00 S.E hC)).size,hb⟩,by intro u hC g F; exact(jg 0 _ O).mono λe w2 h=>by obtain⟨y,rfl,hx,hb⟩:=h; exact⟨_,I,aA.mono hx ((K00 S.E hC)).size,hb⟩,by intro u hC g F; exact(jg 0 _ O).mono λe w2 h=>by obtain⟨y,rfl,hx,hb⟩:=h; exact⟨_,I,aA.mono hx ((K00 S.E hC)).size,hb⟩,by intro u hC g F; exact(jg 1 _ O).mono λe w2 h=>by obtain⟨y,rfl,hx,hb⟩:=h; exact⟨_,I,aA.mono hx ((K00 S.E hC)).size,hb⟩,by intro u hC g F; exact(nC _ q0 1 _ (K06▸bJ.toQ (bJ.gy _) (bJ.iF 1)) O).mono λe w2 h=>by obtain⟨y,rfl,hx,hb⟩:=h; exact⟨_,I,hx.mono ((K00 S.E hC)).size,hb⟩,by intro u hC g F; exact(nC _ q0 1 _ (K06▸bJ.toQ (bJ.gy _) (bJ.iF 1)) O).mono λe w2 h=>by obtain⟨y,rfl,hx,hb⟩:=h; exact⟨_,I,hx.mono ((K00 S.E hC)).size,hb⟩,G⟩) (λu x pW F S=>?_);obtain⟨F14,F16,F18,F20,zy,F24,-⟩:=F;obtain⟨r0,e0⟩:=aA.iM F14;rw[e0]at S F14;try rw[e0]
 obtain⟨r1,e1⟩:=aA.iM F16;rw[e1]at S F16;try rw[e1]
 obtain⟨r2,e2⟩:=aA.iM F18;rw[e2]at S F18;try rw[e2]
 obtain⟨r3,e3⟩:=aA.iM F20;rw[e3]at S F20;try rw[e3]
 obtain⟨r4,e4⟩:=aA.iM zy;rw[e4]at S zy;try rw[e4]
 obtain⟨r5,e5⟩:=aA.iM F24;rw[e5]at S F24;try rw[e5]
 have JM:=S.bx 0;refine azx S 0 (off:=0) (cs:=(r0.cells++r1.cells++r2.cells++r3.cells++r4.cells++r5.cells)) I (λu C13 S=>?_);have oN:=aA.dY F14 C13 JM;have ES:=aA.dY F16 C13 JM;have vS:=aA.dY F18 C13 JM;have BI:=aA.dY F20 C13 JM;have nN:=aA.dY zy C13 JM;have Ac:=aA.dY F24 C13 JM;refine azC S 0 I (v := .agg (r0.cells++r1.cells++r2.cells++r3.cells++r4.cells++r5.cells).toArray) (λS=>?_);exact⟨_,I,⟨⟨r0,r1,r2,r3,r4,r5⟩,I,oN,ES,vS,BI,nN,Ac⟩,S.E⟩
theorem Fp(w:World) :
  Calls prog 52 #[] w λe w'=>∃t:bH,e = .returned t.v∧TI w' t∧Ext w w':=by
 skip;refine azp func52 ntmps52 λS=>azs S Sx.za λu b2 E3 hb4 S=>azz S (Jt _) ?_;rintro e u ⟨x,rfl,hm,E6⟩;obtain⟨m,rfl,hm⟩:=hm;obtain⟨t,e,ho,hi⟩:=V4 hm;rw[e];refine⟨_,I,E6,λS=>?_⟩;have X8:=S.bx 0;refine azx S 0 (off:=0) (cs:=t.cells) I (λu C7 S=>?_);have Fs9:=TI.dY (⟨ho,hi⟩:TI _ t) C7 X8;refine azC S 0 I (v:=t.v) (λS=>?_);exact⟨t,I,Fs9,S.E⟩
theorem TI.fit{w:World}{t:bH}(h:TI w t)(hK:1<=K):t.fit K:=by
 obtain⟨h1,h2,h3,h4,h5,h6⟩:=h.2.fit aj0;exact⟨h1.mono hK,h2.mono hK,h3.mono hK,h4.mono hK,h5.mono hK,h6.mono hK⟩
theorem Uz.ok{w:World}{id kind:Int}{nd:aj}(h:Uz w id kind nd)(hi:I64 id)(hK:1<=K)(hK2:K<=10000):eG K w nd:=by
 rcases h with ⟨-,t,ht,rfl⟩ | ⟨-,t,ht,rfl⟩ | ⟨-,t,b,ht,hb,rfl⟩ | ⟨-,rfl⟩
 .exact⟨⟨hi,(show I64 1 by decide),fC,ht.1,oP w,fC,(show I64 1 by decide),oP w,fC,kV w,aV.gB w,kV w,dF.gB w,fC⟩,ht.fit hK,λp hp=>(by cases hp),λp hp=>(by cases hp),hK,hK2⟩
 .exact aaA hi ht.1 (ht.fit (azS 1)) hK hK2
 .refine⟨⟨hi,(show I64 3 by decide),fC,ht.1,oP w,fC,fC,oP w,fC,kV w,aV.gB w,kV w,⟨(show I64 1 by decide),(show I64 1 by decide),?_⟩,(show I64 1 by decide)⟩,ht.fit hK,λp hp=>(by cases hp),λp hp=>(by cases hp),hK,hK2⟩;refine⟨some ⟨b,0,none⟩,1,I,by decide,.inr ⟨b,0,I,hb.1,azS _,λi hi j hj=>?_⟩⟩;obtain rfl:i=0:=by simp[afv]at hi; exact hi
  have:=hb.2.1 j;rw[show 0+0*4+j=j by omega,this];show _=(bD.cells aqh)[j]?;rw[<-List.getElem?_toArray];rfl
 exact gJ w hK hK2
theorem Uz.check{w:World}{id kind:Int}{nd:aj}(h:Uz w id kind nd):(nd.checkN==0)=((((decide (1<=id))&&(decide (id<=1073741824)))&&(decide (1<=kind)))&&(decide (kind<=3))):=by
 have hv:qI.valid=true:=by decide
 have hd:pI qI.Ef q0=false:=by decide
 have key:∀(n:aj),n.jT=[(false,2),((((decide (id<1))||(decide (1073741824<id)))||false)||false,6),(!n.t.q.valid,5),(pI n.t.q.Ef q0,9),(false,10),(false,17)]->n.t.q=qI->n.qP=0->(n.checkN==0)=((decide (1<=id))&&(decide (id<=1073741824))):=by
  intro n hL hq ho;unfold aj.checkN;rw[hL,hq,hv,hd,ho];rw[aA9];by_cases h1:id<1
  .simp[badL,mZ,h1]; omega
  by_cases h2:1073741824<id
  .simp[badL,mZ,h2];try omega
  simp[badL,mZ,h1,h2]; omega
 rcases h with ⟨rfl,t,ht,rfl⟩ | ⟨rfl,t,ht,rfl⟩ | ⟨rfl,t,b,ht,-,rfl⟩ | ⟨⟨k1,k2,k3⟩,rfl⟩
 .rw[key _ I (ht.2.q Oe) I]; simp
 .rw[key _ I (ht.2.q Oe) I]; simp
 .rw[key _ I (ht.2.q Oe) I]; simp
 rw[Og];symm;rw[aA9];simp only[az7,az6,az4];omega
theorem ahQ{a b:aj}(h:eG K w a)(h':eG K w b):Calls prog 37 #[a.v,b.v] w λe w'=>e = .returned (.bool (a.key=b.key))∧Ext w w':=by
 rw[<-agL h.nrm h'.nrm]; exact Nz h h'
set_option maxRecDepth 100000 in
set_option maxHeartbeats 3200000 in
theorem UA(h:dL K w s)(h':dL K w t) :
  Calls prog 16 #[s.v,t.v] w λe w'=>e = .returned (.bool (s.key=t.key))∧Ext w w':=by
 have hmax:s.ns.length<=9223372036854775807:=h.2.2.1.len;refine azp func16 ntmps16 (λS=>?_);obtain⟨a,cap,es⟩:∃a c,s.s = .slice a s.ns.length c:=⟨_,_,I⟩;have hr:=h.2.2.1;rw[es]at hr;obtain⟨d,cap',et⟩:∃a c,t.s = .slice a t.ns.length c:=⟨_,_,I⟩;have hr':=h'.2.2.1;rw[et]at hr';refine azo S λu b2 E3 hb4 S=>azo S λu b5 E6 hb7 S=>adr S 29 [] [.mem 1 0,.mem 0 0,.mem 1 1,.mem 0 1,.mem 1 2,.mem 0 2,.cmp .neq 40 (.tmp 20) (.tmp 22) (.agg #[.u (s.bg.r.toNat:Int),.u (s.bg.g.toNat:Int),.u (s.bg.b.toNat:Int),.u (s.bg.a.toNat:Int)]) (.agg #[.u (t.bg.r.toNat:Int),.u (t.bg.g.toNat:Int),.u (t.bg.b.toNat:Int),.u (t.bg.a.toNat:Int)]) (.bool (!decide (s.bg=t.bg))),.mem 1 6,.re 27 s.s (.slice a s.ns.length cap),.mem 0 6,.re 30 t.s (.slice d t.ns.length cap')] (hk:=⟨(aAP (λ_=>akn s.bg t.bg _) X),es,et,G⟩) λS=>azm S (((((s.w) != t.w)||((s.h) != t.h))||(!decide (s.bg=t.bg)))||(((s.ns.length:Int)) != (t.ns.length:Int))) (λfG S=>?_) (λfG S=>?_)
 .refine apB S (.z) (λS=>?_);exact⟨aN (ane fG),S.E⟩
 refine azI S (ι:=Nat) (λp a' w'=>p<=s.ns.length∧((keys s.ns).take p=(keys t.ns).take p)∧Sx.St w a' w' 53 [(0,s.v),(1,t.v),(2,.q b2 0),(3,.q b5 0),(4,.z),(5,.i p)] [(b5,t.cells),(b2,s.cells)] []) (λp=>s.ns.length-p) (0) (λS=>⟨azZ _,I,S.qM⟩) ?_;rintro k ac u gQ eu hI;try dsimp only at hI
 obtain⟨hk,hR,S⟩:=hI;refine azJ S λS=>adr S 5 [] [.mem 1 6,.re 36 s.s (.slice a s.ns.length cap)] (hk:=⟨es,G⟩) λS=>azm S (decide ((k:Int)<(s.ns.length:Int))) (λhc16 S=>?_) (λhc16 S=>?_)
 .have vM:k<s.ns.length:=by have:=az9 hc16; omega
  obtain⟨b20,o21,rfl,kR,hx24,EP,JR⟩:=aAo hr (λ_=>I) (k) vM;have S:=S.view0 EP JR;have zJ:k<t.ns.length:=by have:=adV fG; have:=az9 hc16; omega
  obtain⟨b28,o29,rfl,y34,hx32,ab2,ab3⟩:=aAo hr' (λ_=>I) (k) zJ;have S:=S.view0 ab2 ab3;refine azD S 12 [.mem 1 6,.re 42 s.s (.slice (some ⟨b20,o21,none⟩) s.ns.length cap),.idx k s.ns.length,.mem 3 0,.mem 0 6,.re 47 t.s (.slice (some ⟨b28,o29,none⟩) t.ns.length cap'),.idx k t.ns.length,.mem 2 0] [(_,_,true,.bool (kR.key=y34.key))] [(52,.bool (!(decide (kR.key=y34.key))))] ⟨λu hC g=>ahQ ((h.2.2.2 _ (hx24▸aAl vM)).below (K00 S.E hC)) ((h'.2.2.2 _ (hx32▸aAl zJ)).below (K00 S.E hC)),G⟩ (hk:=⟨es,vM,et,zJ,G⟩) λu KU S=>azm S (!(decide (kR.key=y34.key))) (λqp S=>?_) (λqp S=>?_)
  .refine apB S (.z) (λS=>?_);exact⟨aN (aiv fG (anc vM zJ hx24 hx32 qp)),S.E⟩
  refine adr S 3 [] [.re 40 (.i (IntKind.i64.wrap ((k:Int)+1))) (.i (k+1:Nat))] (hk:=⟨azA Z,G⟩) λS=>azG S gQ (λS=>?_);exact eu _ _ (k+1) ⟨Z,(agP vM zJ hR hx24 hx32 qp),S.qM⟩ (by show _-_<_-_; omega)
 refine apB S (.bool true) (λS=>?_);exact⟨aN (aiv fG (ako (by have:=aAd hc16; omega) (adV fG) hR)),S.E⟩
theorem Nl{s:aX}{e:bF}(hS:e.kind=2∨e.kind=5):Ot s e=dA s e:=by unfold Ot dA; rw[show mO s.ns e=iI s.ns e by unfold mO; rw[azP (show ¬e.kind=3 by omega)]]; try rfl
theorem afw{code:Int}(hS:e.kind=2∨e.kind=5)(hv:s.key.valid=true)(hn:e.key.named=true)(hk:keys m.ns=keys s.ns)(hr:afc m e code t)(hc:code≠0):dA s.key e.key=(.zero,code):=by
 rw[<-Nl (show e.key.kind=2∨e.key.kind=5 from hS)];unfold Ot;rw[azP (by simp[hv]),azP (by simp[hn])];have h1:=hr.1;rw[hk]at h1;rw[show s.key.ns=keys s.ns from rfl];cases hp:mO (keys s.ns) e.key with
 | error n=>rw[hp]at h1; rw[show code=n from h1]
 | ok l=>rw[hp]at h1; exact absurd h1.1 hc
theorem Zq(hS:e.kind=2∨e.kind=5)(hv:s.key.valid=true)(hn:e.key.named=true)(hk:keys m.ns=keys s.ns)(h3:m.w=s.w∧m.h=s.h∧m.bg=s.bg)(hr:afc m e 0 t)(hne:∀n,mO (keys s.ns) e.key = .error n->n≠0):dA s.key e.key=if t.key.chk.1=0 then (t.key,0)else (.zero,t.key.chk.1):=by
 rw[<-Nl (show e.key.kind=2∨e.key.kind=5 from hS)];unfold Ot;rw[azP (by simp[hv]),azP (by simp[hn])];have h1:=hr.1;rw[hk]at h1;rw[show s.key.ns=keys s.ns from rfl];cases hp:mO (keys s.ns) e.key with
 | error n=>rw[hp]at h1; exact absurd h1.symm (hne n hp)
 | ok l =>
  rw[hp]at h1;have ht:s.key.with' e.key l=t.key:=by
   unfold aX.with' aH.key;rw[hr.2.1,hr.2.2,h1.2.2,<-h1.2.1,h3.1,h3.2.1,h3.2.2];rfl
  simp only[ht]
theorem UC{w0:World}{b:Nat}(hE:Ext w0 w)(hx:Bx w b s.cells.toArray)(hb:w0.heap.size<=b)(ho:s.own w0.heap.size w)(hob:s.s.ownBlock≠some b)(hnb:Sx.On (λi=>w0.heap.size<=i∧i≠b∧s.s.ownBlock≠some i) (λW=>∀n∈s.ns,n.pU w0.heap.size W) w)(hf:∀n∈s.ns,n.vT K)(he:iy K w0 e)(hel:e.node.lim)(hS:e.kind=2∨e.kind=5)(hn:s.ns.length<=1000) :
  Calls prog 99 #[.q b 0,e.v] w λr w'=>∃(code:Int) (t:aH),r = .returned (.i code)∧Ext w0 w'∧Bx w' b t.cells.toArray∧fA w0.heap.size t.s t.ns w'∧(∀n∈t.ns,n.vT K)∧afc s e code t:=by
 skip;refine azN func99 ntmps99 hE hx hb (λS=>?_);obtain⟨a,cap,es⟩:∃a c,s.s = .slice a s.ns.length c:=⟨_,_,I⟩;have hor:=ho.row;rw[es]at hor hob hnb;have R:=ahJ S hor hob;have hnd:=afh (A:=s.cells) (m:=s.ns.length) (xs:=s.ns.flatMap aj.cells) hnb;refine azs S e.cells (λu b2 E3 hb4 S=>?_);obtain⟨R,Y6⟩:=R.bQ S (aAX E3 hb4);have hrow:=(aAj (kX (f:=aj.cells) (L:=s.ns) (λ_=>I) (R.own _ az5) I I));refine azD S 7 [.mem 1 6,.re 15 s.s (.slice a s.ns.length cap),.mem 0 1] [(_,_,true,.i (wW (keys s.ns) e.id))] [(18,.i (wW (keys s.ns) e.id))] ⟨λu hC g=>Wp (id:=e.id) (hrow.below hC),G⟩ (hk:=⟨es,G⟩) λu E7 S=>adr S 5 [] [.mem 0 0] λS=>azm S ((e.kind)==1) (λgV S=>?_) (λgV S=>?_)
 .exact absurd hS (by simp only[az4]at gV; omega)
 refine azm S ((e.kind)==2) (λug S=>?_) (λug S=>?_)
 .refine azm S ((e.kind)==2) (λyI S=>?_) (λyI S=>?_)
  .refine azm S (decide ((wW (keys s.ns) e.id)<0)) (λhc18 S=>?_) (λhc18 S=>?_)
   .have hfk:=((EK s.ns e.id).resolve_right (λ⟨i,h,_⟩=>by have:=az9 hc18; omega)).2;obtain⟨R,Y20⟩:=R.bQ S (aAg E7);refine apB S (.i 8) (λS=>?_);exact⟨8,s,I,S.E,S.bx 1,(es▸aAm (kC (λ_=>I) (R.own _ az5) I I) (Sx.Ow.dep (aBf hnd (aAc Y6 Y20)))),hf,⟨by rw[show mO (keys s.ns) e.key = .error 8 by unfold mO iI; rw[azP (show ¬e.key.kind=3 from λh=>by have:=(show(e.key.kind=2)from by simpa[aP.key]using ug); omega),azP (show ¬(e.key.kind=1)from by simpa[aP.key]using gV),azQ (show(e.key.kind=2)from by simpa[aP.key]using ug),show jM (keys s.ns) e.key.id=none from hfk]],I,I⟩⟩
   obtain⟨i,hfi,hfk,hi⟩:=(EK s.ns e.id).resolve_left (λh=>by have:=aAd hc18; omega);have hek:=agM (l:=keys s.ns) (i:=i) (by simpa using hi);rw[aA5]at hek;obtain⟨R,Y22⟩:=R.bQ S (aAg E7);obtain⟨gb,rfl,hgn⟩:=afe R Z;have hrw:=alV R I;have avu:=alU (aBf hnd (aAc Y6 Y22));have R:=Rw.pop R;have hrow:=(aAj hrw).1;have q23:=S.E.size;have q24:=R.lt;obtain⟨e9,he9⟩:∃z,z=yT (keys s.ns) i:=⟨_,I⟩;rw[<-he9]at hek;have hro:=hrw;refine Yp S Tryz.f99 11 (λS iz=>?_);refine zB S 16 [(67,λv w1=>∃v1,v = .tuple #[v1,.slice (some ⟨gb,0+i*47,none⟩) (e9-i) (e9-i)]∧Sx.On (λj=>(w0.heap.size<=j∧j∉Ob [(b2,e.cells),(b,s.cells)] [])∨u.heap.size<=j) (nY 38 47 aj.cells w0.heap.size v1 (s.ns.take i++s.ns.drop e9)) w1),(55,λv w1=>∃v1,v = .tuple #[v1,.slice (some ⟨gb,0+i*47,none⟩) (e9-i) (e9-i)]∧Sx.On (λj=>(w0.heap.size<=j∧j∉Ob [(b2,e.cells),(b,s.cells)] [])∨u.heap.size<=j) (nY 38 47 aj.cells w0.heap.size v1 (s.ns.take i++s.ns.drop e9)) w1),(68,λv w1=>Sx.On (λj=>(w0.heap.size<=j∧j∉Ob [(b2,e.cells),(b,s.cells)] [])∨u.heap.size<=j) (nY 38 47 aj.cells w0.heap.size v (s.ns.take i++s.ns.drop e9)) w1),(69,λv w1=>v = .slice (some ⟨gb,0+i*47,none⟩) (e9-i) (e9-i)),(6,λv w1=>Sx.On (λj=>(w0.heap.size<=j∧j∉Ob [(b2,e.cells),(b,s.cells)] [])∨u.heap.size<=j) (nY 38 47 aj.cells w0.heap.size v (s.ns.take i++s.ns.drop e9)) w1)] (λr=>[.mem 1 6,.re 59 s.s (.slice (some ⟨gb,0,none⟩) s.ns.length cap),.mem 1 6,.re 64 s.s (.slice (some ⟨gb,0,none⟩) s.ns.length cap),.hand 55 [],.hand 68 [],.hand 69 [],.hand 6 []]) (λx=>[.i e9,x 67,x 55,x 68,x 69,x 6]) (λx=>[(_,_,true,.i e9,66),(_,_,true,x 67,67)]) [[],[]] (λx=>[(6,x 6),(69,x 69)]) ⟨λ_ _ _ k h=>by obtain⟨v1,e,h⟩:=h; exact⟨v1,e,h.ext k⟩,λ_ _ _ k h=>by obtain⟨v1,e,h⟩:=h; exact⟨v1,e,h.ext k⟩,λ_ _ _ k h=>h.ext k,λ_ _ _ _ h=>h,λ_ _ _ k h=>h.ext k,G⟩ (λx=>⟨by intro u hC g F; exact(aaQ (hrow.below hC) hi hfi he9).mono λe w2 h=>⟨_,h.1,I,h.2⟩,by intro u hC g F; exact(SK (hrow.below hC) (f:=i) (t:=e9) Z Z Z hfi).mono λe w2 h=>by obtain⟨v1,rfl,hx,hb⟩:=h; exact⟨_,I,⟨v1,by rw[aff (show e9≠i by omega)],(hx w0.heap.size _ (K00 S.E hC).size (az3 hro hC)).mono λj hj=>hj.imp_right (aAa hC.size)⟩,hb⟩,G⟩) (λac u x FH F S=>?_) (hk:=λr=>⟨es,es,G,G,G,G,G⟩) (hl:=[(12,[67]),(13,[55]),(14,[55]),(15,[68])]) (hH:=λx r=>⟨λo ho ρ u hs hE hρ hV F=>by obtain⟨F67,-⟩:=F; obtain⟨v1,e1,h1⟩:=F67; exact jA ho hs [(67,.tuple #[v1,.slice (some ⟨gb,0+i*47,none⟩) (e9-i) (e9-i)])] (azV ((hρ 67 O I).trans e1)) (.tuple #[v1,.slice (some ⟨gb,0+i*47,none⟩) (e9-i) (e9-i)]) (aAT ho I I K01 ⟨v1,I,h1⟩),λo ho ρ u hs hE hρ hV F=>by obtain⟨F55,-⟩:=F; obtain⟨v1,e1,h1⟩:=F55; exact jA ho hs [(55,.tuple #[v1,.slice (some ⟨gb,0+i*47,none⟩) (e9-i) (e9-i)])] (azV ((hρ 55 O I).trans e1)) (v1) (aAT ho I I K01 h1),λo ho ρ u hs hE hρ hV F=>by obtain⟨F55,-⟩:=F; obtain⟨v1,e1,h1⟩:=F55; exact jA ho hs [(55,.tuple #[v1,.slice (some ⟨gb,0+i*47,none⟩) (e9-i) (e9-i)])] (azV ((hρ 55 O I).trans e1)) (.slice (some ⟨gb,0+i*47,none⟩) (e9-i) (e9-i)) (aAT ho I I K01 I),λo ho ρ u hs hE hρ hV F=>by obtain⟨F68,-⟩:=F; exact jA ho hs [(68,x 68)] (azV (hρ 68 O I)) (x 68) (aAT ho I I K01 F68),G⟩);refine Rf S (λS=>?_);obtain⟨F67,F55,F68,F69,F6,-⟩:=F;clear F67;clear F55;clear F68;rw[F69]at S;try rw[F69]
   obtain⟨R,Y26⟩:=R.bQ S (aAg FH);have hcut:Sx.Ow w0.heap.size (Ob [(b2,e.cells),(b,s.cells)] []) (nY 38 47 aj.cells w0.heap.size (x 6) (s.ns.take i++s.ns.drop e9)) u:=F6.mono λj hj=>hj.elim id λh=>⟨aAa q23 h,λhm=>by have:=q24 j hm; omega⟩;obtain⟨a7,c7,e7⟩:=(aAj hcut).1.shape;rw[e7]at S hcut;try rw[e7]
   refine adr S 4 [] [.mem 0 0] λS=>azm S ((e.kind)==2) (λhc29 S=>?_) (λhc29 S=>?_)
   .refine SL S 1 (off:=6) (v := .slice a7 ((s.ns.take i++s.ns.drop e9).length) c7) I (λu C31 S=>?_);obtain⟨R,Y33⟩:=R.bQ S (Sx.Stp.Ov C31);refine apB S (.i 0) (λS=>?_);exact⟨0,⟨s.w,s.h,s.bg,a7,c7,s.ns.take i++s.ns.drop e9⟩,I,S.E,S.bx 1,aAm (Sx.Ow.dep (aBf hcut Y33)) (aAD (Sx.Ow.dep (aBf avu (aAc Y26 Y33))) λ_ h=>Zj h i e9),Zj hf i e9,⟨by rw[show mO (keys s.ns) e.key = .ok (Si (keys s.ns) i e9) by unfold mO iI; rw[azP (show ¬e.key.kind=3 from λh=>by have:=(show(e.key.kind=2)from by simpa[aP.key]using ug); omega),azP (show ¬(e.key.kind=1)from by simpa[aP.key]using gV),azQ (show(e.key.kind=2)from by simpa[aP.key]using ug),show jM (keys s.ns) e.key.id=some i from hfk]; rw[he9]]; exact⟨I,afg ..,by rw[azP (λh=>by have:=(show(e.key.kind=2)from by simpa[aP.key]using ug); simp only[aP.key]at this; omega)]⟩,I,I⟩⟩
   rw[ug]at hc29; cases hc29
  rw[ug]at yI; cases yI
 refine azm S ((e.kind)==3) (λhc34 S=>?_) (λhc34 S=>?_)
 .exact absurd hS (by simp only[az4]at hc34; omega)
 refine azm S ((e.kind)==4) (λqp S=>?_) (λqp S=>?_)
 .exact absurd hS (by simp only[az4]at qp; omega)
 refine azm S ((e.kind)==5) (λhc38 S=>?_) (λhc38 S=>?_)
 .refine adr S 5 [] [.mem 0 51] λS=>azx S 1 (off:=2) (cs:=e.color.cells) I (λu C39 S=>?_);obtain⟨R,Y41⟩:=R.bQ S (aAc (aAg E7) (Sx.Stp.Ov C39));refine apB S (.i 0) (λS=>?_);exact⟨0,⟨s.w,s.h,e.color,s.nsa,s.nsc,s.ns⟩,I,S.E,S.bx 1,(es▸aAm (kC (λ_=>I) (R.own _ az5) I I) (Sx.Ow.dep (aBf hnd (aAc Y6 Y41))):fA _ s.s _ _),hf,⟨by rw[show mO (keys s.ns) e.key = .ok (keys s.ns) by unfold mO iI; rw[azP (show ¬(e.key.kind=3)from by simpa[aP.key]using hc34),azP (show ¬(e.key.kind=1)from by simpa[aP.key]using gV),azP (show ¬(e.key.kind=2)from by simpa[aP.key]using ug),azP (show ¬(e.key.kind=3)from by simpa[aP.key]using hc34),azP (show ¬(e.key.kind=4)from by simpa[aP.key]using qp)]]; exact⟨I,I,by rw[azQ (by simpa using hc38)]⟩,I,I⟩⟩
 exact absurd hS (by simp only[aAh]at ug hc38; omega)
theorem P6(h:dL K w s)(hg:dw w)(he:iy K w e)(hlim:∀n∈s.ns,n.lim)(hel:e.node.lim)(hS:e.kind=2∨e.kind=5) :
  Calls prog 62 #[s.v,e.v] w λr w'=>∃(t:aH) (code:Int),r = .returned (.tuple #[t.v,.i code])∧XO w.heap.size K s e code t w'∧Ext w w':=by
 skip;refine azp func62 ntmps62 λS=>azo S λu b2 E3 hb4 S=>azo S λu b5 E6 hb7 S=>azo S λu b8 E9 zZ S=>adr S 2 [] [.mem 2 0] λS=>azB S (wY (h.below S.E) (hg.below S.E)) λu Dj S=>azm S (!s.key.valid) (λug S=>?_) (λug S=>?_)
 .refine azq S 0 I λu C16 S=>Jm S 0 I (v := .agg (aH.cells .zero).toArray) (u := .i 18) (λS=>⟨.zero,_,I,rP (by unfold dA; rw[azQ (by simpa using ug)]),S.E⟩)
 refine adr S 1 [] [.mem 1 0] λS=>azB S (abE (he.below S.E)) λu KU S=>azm S (!e.key.named) (λqx S=>?_) (λqx S=>?_)
 .refine azq S 0 I λu C22 S=>Jm S 0 I (v := .agg (aH.cells .zero).toArray) (u := .i 2) (λS=>⟨.zero,_,I,rP (by unfold dA; rw[azP (by have:=ug; simp at this; simp[this]),azQ (by simpa using qx)]),S.E⟩)
 have hE0:=S.E;have afx:=(S.bx 0).1;have aqi:=(S.bx 1).1;have aju:=(S.bx 2).1;obtain⟨wc,hwc⟩:∃z:World,z=u:=⟨_,I⟩;rw[<-hwc]at hE0 afx aqi aju;have hcw:Ext wc u:=hwc▸K01;have hv:s.key.valid=true:=by simpa using ug
 have hno:e.key.named=true:=by simpa using qx
 have hsl:s.ns.length<=64:=by have:=(aX.kE.1 hv).2.1; rwa [show s.key.ns.length=s.ns.length from aA5 ..]at this
 have hwl:=(hcw).size;refine adr S 1 [] [.mem 2 0] λS=>azz S (rH (h.below S.E) hlim Z) ?_;rintro e u ⟨m,rfl,hmo,hms,hmw,hmh,hmb,yO⟩;refine⟨_,I,yO,λS=>?_⟩;have hwz:=((K00 hcw yO)).size;refine azo S (λu b25 UU EP S=>?_);have hge:wc.heap.size<=b25:=Z
 refine azq S 0 I (λu EU S=>?_);have yL:=azr (K00 yO UU) EU (by have:=yO.size; omega);have hmw:=And.intro hmw (And.intro hmh hmb);have amb:=(own_base hwl (abG hmo UU EU (.inr (aCm EP.symm))));have hml:m.ns.length=s.ns.length:=by have:=az0 List.length hms; simpa using this
 refine adr S 1 [] [.mem 2 0] λS=>azw S λS=>LD S (some 19) hE0 ((K00 hcw yL)) (λp hp=>by rcases az2.1 hp with rfl | hp; exact afx; rcases az2.1 hp with rfl | hp; exact aqi; rcases az2.1 hp with rfl | hp; exact aju; cases hp) (UC (K:=K) (w0:=wc) ((K00 hcw yL)) (S.kK 0) hge amb.1 amb.2.1 amb.2.2 (λn hn=>⟨fits_all hms (λn hn=>(h.2.2.2 n hn).2) n hn,Aw hms hlim n hn⟩) (he.below hE0) hel hS Z) ?_;rintro r u ⟨code,t,rfl,hE2,hX,hcp,hft,hres⟩;refine⟨_,t.cells,I,hE2,hX,λac S=>?_⟩;refine U3 S (λS=>?_);have htw:I64 t.w∧I64 t.h:=by rw[hres.2.1,hres.2.2,hmw.1,hmw.2.1]; exact⟨h.1,h.2.1⟩
 have hkm:keys m.ns=keys s.ns:=Au hms;refine azm S ((code)==0) (λUn S=>?_) (λUn S=>?_)
 .refine adr S 1 [] [.mem 0 0] λS=>azB S (Eu (K:=K) (s:=t) ⟨htw.1,htw.2,fA.ok (hcp) λn hn=>(hft n hn).1⟩ (hg.below S.E)) λu E34 S=>azm S ((t.key.chk.1) != 0) (λEY S=>?_) (λEY S=>?_)
  .refine azq S 1 I (λu C39 S=>?_);have S:=S.fl;have Dt:=aY.ch (az3 hcp E34) C39 afx;have hc0:code=0:=by simpa using Un
   have hap:=Zq hS hv hno hkm hmw (hc0▸hres) λn h=>Jr h;refine Jm S 1 I (v := .agg (aH.cells .zero).toArray) (u := .i t.key.chk.1) (λS=>⟨.zero,_,I,rP (by rw[hap,azP (by simpa using EY)]),S.E⟩)
  refine adr S 1 [] [.mem 0 0] λS=>azq S 1 I (λu C42 S=>?_);have wJ:=aY.ch (az3 hcp E34) C42 afx;have hc0:code=0:=by simpa using Un
  have hap:=Zq hS hv hno hkm hmw (hc0▸hres) λn h=>Jr h;refine Jm S 1 I (v := .agg (aH.cells t).toArray) (u := .i 0) (λS=>⟨t,_,I,⟨by rw[hap,azQ (by simpa using EY)],fA.le (wJ) hE0.size,⟨htw.1,htw.2,fA.ok (wJ) λn hn=>(hft n hn).1⟩,hft⟩,S.E⟩)
 have hne:((code) != 0)=true:=by have:=Un; simpa using this
 refine azm S ((code) != 0) (λV5 S=>?_) (λV5 S=>?_)
 .refine azq S 1 I (λu C48 S=>?_);have SA:=aY.ch hcp C48 afx;refine Jm S 1 I (v := .agg (aH.cells .zero).toArray) (u := .i code) (λS=>⟨.zero,_,I,rP (afw hS hv hno hkm hres (by simpa using hne)),S.E⟩)
 rw[hne]at V5; cases V5
