/- The laws' own example: a page of one group, and what -/
import Derived.Test.YtodpgjjgaddkeaaGreatDoorPk37
set_option maxHeartbeats 3200000
set_option maxRecDepth 100000
set_option linter.unusedVariables false
set_option linter.unusedSimpArgs false
namespace Go.Proofs.YtodpgjjgaddkeaaGreatDoor
open _root_.Go.Proofs.Tryz
section
open Go.RowKit En Go.Sx Go.Rel
variable{α:Type}{K:Nat}
def P7:aQ:=⟨1,1,0,qI,[],0,255,1,false,false,[],0,[],aV.bare.key,[],dF.bare.key,0⟩
def xI(w:World)(m:aH):Prop:=dL 20 w m∧(∀n∈m.ns,n.lim)∧m.key=xH P7 .none∧Pg P7
theorem xI.below{w w':World}{m:aH}(h:xI w m)(hE:Ext w w'):xI w' m:=⟨h.1.below hE,h.2⟩
variable{w:World}{b:Nat}{v:Value}{m:aH}{n:aQ}
theorem ahR{t:bH}(ht:TI w t)(hx:Bx w b (vC 1 t).cells.toArray):xI w ⟨2,1,.none,some ⟨b,0,none⟩,1,[vC 1 t]⟩:=by
 have hd:Uz w 1 1 (vC 1 t) := .inl ⟨I,t,ht,I⟩;have hk:(vC 1 t).key=P7:=by unfold aj.key P7 vC; rw[ht.2.q Oe]; rfl
 have hc:(vC 1 t).checkN=0:=by have:=hd.check; simpa using this
 refine⟨⟨(show I64 2 by decide),(show I64 1 by decide),FX (f:=aj.cells) [vC 1 t] (λ_=>I) (by simpa using hx) (by show 1<=maxLen; decide),λn hn=>by rw[aAn.1 hn]; exact hd.ok O O O⟩,λn hn=>?_,by unfold aH.key xH; rw[<-hk]; rfl,⟨by rw[<-hk,lG]; exact hc,I,I,I⟩⟩;rw[aAn.1 hn];exact⟨(ht.fit (azS 1)).up O,azZ _,azZ _,azZ _,(λp hp=>by cases hp),azZ _,azZ _,(λp hp=>by cases hp),azZ _⟩
def EdS(k:bF):Prop:=k.kind=2∨k.kind=5
theorem oK:ApC EdS:=λh hg he hl hel hS=>P6 h hg he hl hel hS
theorem UD{f:FuncId}{args:Array Value}{v':Value}(h:Calls prog f args w λe w'=>e = .returned v∧Ext w w')(hv:v=v'):Calls prog f args w λe w'=>e = .returned v'∧Ext w w':=hv▸h
theorem ai6{a n:Nat}{H:HD}{h:HK}(hx:Bx w b H.cells.toArray)(hk:H.key=h)(ha:h.k=a)(hn:h.es.length=n) :
  Calls prog 9 #[.q b 0] w λe w'=>e = .returned (.tuple #[.i a,.i n])∧Ext w w':=by
 subst hk ha hn;exact UD (afa (sv := .slice H.sa H.ss.length H.sc) (ea:=H.ea) (ec:=H.ec) hx) (by simp[HD.key])
theorem amc(h:∃t:aH,v=t.v∧xI w t)(hm:dL 20 w m)(hk:m.key=xH P7 .none) :
  Calls prog 16 #[m.v,v] w λe w'=>e = .returned (.bool true)∧Ext w w':=by
 obtain⟨t,rfl,ht⟩:=h;exact UD (UA hm ht.1) (by rw[hk,ht.2.2.1]; simp)
theorem Ju(w:World){k i:Int}{c:bD}(hk:I64 k)(hi:I64 i)(hK:1<=K∧K<=10000):iy K w ⟨k,i,0,0,bM,c⟩:=⟨hk,hi,(show I64 0 by decide),(show I64 0 by decide),gJ w hK.1 hK.2⟩
theorem xJ:bM.lim:=⟨(gJ (K:=20) default O O).2.1.up O,azZ _,azZ _,azZ _,(λp hp=>by cases hp),azZ _,azZ _,(λp hp=>by cases hp),azZ _⟩
theorem K11{h:HK}{e:bF}{t:aX}{c:Int}(hk:h.k≠256)(ha:dA h.now e=(t,c)):h.app e=if c=0 then (⟨h.ss.take (h.k+1)++[t],h.es.take h.k++[e],h.k+1⟩,0)else (h,c):=by
 unfold HK.app HK.put;rw[azP hk,ha]
theorem amd(h:Pg n)(c:bD):HK.app ⟨[xH n .none],[],0⟩ (pF c)=(⟨[xH n .none,xH n c],[pF c],1⟩,0):=by
 rw[K11 (h:=⟨[xH n .none],[],0⟩) (t:=xH n c) (c:=0) (by show(0:Nat)≠256; decide) (Nk (s:=xH n .none) (h.valid _) c),azQ I]; rfl
theorem aqj(h:Pg n)(c:bD)(es:List bF):HK.app ⟨[xH n .none,xH n c],es,1⟩ (.remove 9)=(⟨[xH n .none,xH n c],es,1⟩,8):=by
 rw[K11 (h:=⟨[xH n .none,xH n c],es,1⟩) (t := .zero) (c:=8) (by show(1:Nat)≠256; decide) (h.rm9 c),azP O]
theorem Jv(w:World) :
  Calls prog 26 #[] w λe w'=>∃m:aH,e = .returned m.v∧xI w' m∧Ext w w':=by
 skip;refine azp func26 ntmps26 λS=>azs S [.i 0,.i 0,.u 0,.u 0,.u 0,.u 0,.sn] λu b2 E3 hb4 S=>azz S (Fp _) ?_;rintro e u ⟨t,rfl,ht,E6⟩;refine⟨_,I,E6,λS=>?_⟩;refine azs S (Sx.L [.i 1,.i 1,.i 0]++t.cells++Sx.L [.sn,.i 0,.u 255,.i 1,.z,.z,.sn,.i 0,.sn,.i 0,.i 0,.i 0,.i 0,.sn,.i 0,.sn,.i 0,.i 0,.sn,.i 0]) (λu b7 E8 hb9 S=>?_);have UZ:=S.bx 1;refine azx S 1 (off:=0) (cs:=[.i 2,.i 1,.u 0,.u 0,.u 0,.u 0,.slice (some ⟨b7,0,none⟩) 1 1]) I (λu C10 S=>?_);have BM:=TI.dY (ht.below E8) C10 UZ;refine azC S 1 I (v:=aH.v ⟨2,1,.none,some ⟨b7,0,none⟩,1,[vC 1 t]⟩) (λS=>?_);exact⟨_,I,ahR BM (S.kK 0),S.E⟩
theorem ame{base:Nat}(hc:fA base m.s m.ns w)(ho:dL K w m)(hl:∀n∈m.ns,n.vT K):aY base (λW=>dL K W m∧∀n∈m.ns,n.lim) w:=
 aAD hc λW h=>⟨⟨ho.1,ho.2.1,h.1.1,λn hn=>⟨(h.2 n hn).1,(hl n hn).1⟩⟩,λn hn=>(hl n hn).2⟩
theorem afz(hg:dw w) :
  Calls prog 19 #[] w λe w'=>e = .returned (.bool true)∧Ext w w':=by
 skip;refine azp func19 ntmps19 λS=>azz S (Jv _) ?_;rintro e u ⟨p,rfl,hp,E3⟩;refine⟨_,I,E3,λS=>?_⟩;have hold:=λp hp=>(S.own p hp).1.1;have jZ:=S.E.size;obtain⟨c0,hc0⟩:∃z:Nat,z=u.heap.size:=⟨_,I⟩;have hpg:=hp;refine azz S (PY hpg.1 (dw.below hg S.E) hpg.2.1 (by rw[hpg.2.2.1]; exact hpg.2.2.2.valid _)) ?_;rintro e u ⟨bh,H1,rfl,hcb,hX1,hm1,⟨hok1,hk1⟩,E4⟩;rw[<-hc0]at hcb hm1 hold jZ;rw[hpg.2.2.1]at hk1;refine⟨_,I,E4,λS=>?_⟩;have S:=S.fl;have S:=S.adopt (A:=H1.cells) hX1 Z (λp hp=>by have:=hold p hp; omega) (λm hm=>by cases hm);refine adr S 11 [25,26] [] λS=>azE S λS=>azo S λu b8 E9 zZ S=>azq S 0 I (λu Yo S=>?_);have pW:=azr E9 Yo;refine adr S 3 [] [.mem 0 0] (λS=>?_);have S:=S.fl;refine azt S 1 I (oJ oK (show EdS _ from .inr I) S.E (S.bx 1) (S.old 1) hcb hok1 ((az3 hm1 pW)) (e:=⟨5,0,0,0,bM,⟨255,0,0,255⟩⟩) (dw.below hg S.E) (Ju _ O O O) xJ) ?_;rintro e u ⟨H2,cd,rfl,hp2,hok2,hm2,hE2,hC2,hX2⟩;obtain⟨hk2,rfl⟩:=aCg (hp2.trans (show _=((⟨[xH P7 .none,xH P7 ⟨255,0,0,255⟩],[pF ⟨255,0,0,255⟩],1⟩:HK),(0:Int))from by rw[hk1]; exact amd hpg.2.2.2 ⟨255,0,0,255⟩));refine⟨_,_,I,hE2,hC2,hX2,λS=>?_⟩;have Am:=(Sx.On.ch ((az3 hm1 pW)) hC2 Z);have S:=S.fl;refine azt S 1 I (oJ oK (show EdS _ from .inl I) S.E (S.bx 1) (S.old 1) hcb hok2 hm2 (e:=⟨2,9,0,0,bM,.none⟩) (dw.below hg S.E) (Ju _ O O O) xJ) ?_;rintro e u ⟨H3,cd,rfl,hp3,P5,Xl,hE3,hC3,hX3⟩;obtain⟨hk3,rfl⟩:=aCg (hp3.trans (show _=((⟨[xH P7 .none,xH P7 ⟨255,0,0,255⟩],[pF ⟨255,0,0,255⟩],1⟩:HK),(8:Int))from by rw[hk2]; exact aqj hpg.2.2.2 ⟨255,0,0,255⟩ _));refine⟨_,_,I,hE3,hC3,hX3,λS=>?_⟩;have ES:=(Sx.On.ch hm2 hC3 Z);have S:=S.fl;refine azt S 1 I (afn S.E (S.bx 1) (S.old 1) hcb P5 Xl) ?_;rintro e u ⟨H4,cd,rfl,hp4,ahS,hm4,hE4,hC4,hX4⟩;obtain⟨hk4,rfl⟩:=aCg (hp4.trans (show _=((⟨[xH P7 .none,xH P7 ⟨255,0,0,255⟩],[pF ⟨255,0,0,255⟩],0⟩:HK),(0:Int))from by rw[hk3]; exact I));refine⟨_,_,I,hE4,hC4,hX4,λS=>?_⟩;have BI:=(Sx.On.ch Xl hC4 Z);have zq0:=(S.bx 0).1;have zq1:=(S.bx 1).1;refine azz S (Gi (S.kK 1) ahS hm4) ?_;rintro e u ⟨q,rfl,hqc,hqo,hqk,hql,yN⟩;rw[hk4]at hqk;have Z9:=ame hqc hqo hql;refine⟨_,I,yN,λS=>?_⟩;refine azo S λu b21 Qm ajU S=>azq S 0 I (λu NY S=>?_);have FH:=azr (K00 yN Qm) NY (by have:=yN.size; omega);have UU:=azr Qm NY;have S:=S.fl;refine azt S 2 I (afn S.E (S.bx 2) (S.old 2) hcb ahS ((az3 hm4 FH))) ?_;rintro e u ⟨H5,cd,rfl,hp5,ahT,hm5,hE5,hC5,hX5⟩;obtain⟨hk5,rfl⟩:=aCg (hp5.trans (show _=((⟨[xH P7 .none,xH P7 ⟨255,0,0,255⟩],[pF ⟨255,0,0,255⟩],0⟩:HK),(20:Int))from by rw[hk4]; exact I));refine⟨_,_,I,hE5,hC5,hX5,λS=>?_⟩;have Dz:=(Sx.On.ch ((az3 hm4 FH)) hC5 Z);have qR:=(Sx.On.ch ((az3 Z9 UU)) hC5 Z);have S:=S.fl;refine azt S 2 I (afo S.E (S.bx 2) (S.old 2) hcb ahT hm5) ?_;rintro e u ⟨H6,cd,rfl,hp6,amf,hm6,SX,zG,SY⟩;obtain⟨hk6,rfl⟩:=aCg (hp6.trans (show _=((⟨[xH P7 .none,xH P7 ⟨255,0,0,255⟩],[pF ⟨255,0,0,255⟩],1⟩:HK),(0:Int))from by rw[hk5]; exact I));refine⟨_,_,I,SX,zG,SY,λS=>?_⟩;have uM:=(Sx.On.ch hm5 zG Z);have wG:=(Sx.On.ch qR zG Z);have S:=S.fl;refine azt S 2 I (afo S.E (S.bx 2) (S.old 2) hcb amf hm6) ?_;rintro e u ⟨H7,cd,rfl,hp7,afA,hm7,hE7,hC7,hX7⟩;obtain⟨hk7,rfl⟩:=aCg (hp7.trans (show _=((⟨[xH P7 .none,xH P7 ⟨255,0,0,255⟩],[pF ⟨255,0,0,255⟩],1⟩:HK),(20:Int))from by rw[hk6]; exact I));refine⟨_,_,I,hE7,hC7,hX7,λS=>?_⟩;have yR:=(Sx.On.ch hm6 hC7 Z);have CB:=(Sx.On.ch wG hC7 Z);refine azB S (ai6 (S.kK 2) hk7 I I) λu EX S=>azz S (Nh (S.kK 2) afA ((az3 hm7 EX)) (dw.below hg S.E)) ?_;rintro e u ⟨vb,rfl,hvb,Ro⟩;refine⟨_,I,Ro,λS=>?_⟩;have hold:=λp hp=>(S.own p hp).1.1;have jZ:=S.E.size;have hrw:=aAj ((az3 hm7 (K00 EX Ro)));refine azz S (abN oK (by rw[hk7]; intro e he; rw[aAn.1 he]; exact .inr I) (rowB hvb) afA O hrw (dw.below hg S.E)) ?_;rintro e u ⟨bu,A02,rfl,hbu,hXG,hmG,ahP,hkG,Qn⟩;refine⟨_,I,Qn,λS=>?_⟩;have S:=S.adopt (A:=A02.cells) hXG Z (λp hp=>by have:=hold p hp; omega) (λm hm=>by cases hm);refine azE S (λS=>?_);have hEu:=S.E;have hmH:=((az3 hm7 (K00 EX (K00 Ro Qn))));have hmG:=hmG;have hqs:=aAj ((az3 CB (K00 EX (K00 Ro Qn))));rw[hk7]at hkG;have S:=S.fl;refine Yp S Tryz.f19 17 (λS iz=>?_);have S:=S.sub [(1,.q bh 0),(3,.q b8 0),(4,.i 0),(5,.i 8),(6,.i 0),(7,.q b21 0),(8,.i 20),(9,.i 0),(10,.i 20),(11,.i 1),(12,.i 1),(14,.i 0),(15,.q bu 0),(16,.i 0)];refine aeD S 58 (Rel.is (.i 0)::Rel.is (.bool true)::Rel.is (.bool true)::Rel.is (.i 8)::Rel.is (.bool true)::Rel.is (.bool true)::Rel.is (.bool true)::Rel.is (.i 0)::Rel.is (.bool true)::Rel.is (.bool true)::Rel.is (.bool true)::Rel.is (q.v)::(λv w1=>∃m:aH,v=m.v∧xI w1 m)::Rel.is (.bool true)::Rel.is (.bool true)::Rel.is (.bool true)::Rel.is (.i 20)::Rel.is (.bool true)::Rel.is (.bool true)::Rel.is (.bool true)::Rel.is (.i 0)::Rel.is (.bool true)::Rel.is (.bool true)::Rel.is (.bool true)::Rel.is (.i 20)::Rel.is (.bool true)::Rel.is (.bool true)::Rel.is (.bool true)::Rel.is (.q bh 0)::(λv w1=>∃m:aH,v=m.v∧m.bg=⟨255,0,0,255⟩)::Rel.is (.agg #[.u 255,.u 0,.u 0,.u 255])::Rel.is (.agg #[.u 255,.u 0,.u 0,.u 255])::Rel.is (.bool true)::Rel.is (.bool true)::Rel.is (.bool true)::Rel.is (.i 1)::Rel.is (.bool true)::Rel.is (.bool true)::Rel.is (.bool true)::Rel.is (.i 1)::Rel.is (.bool true)::Rel.is (.bool true)::Rel.is (.bool true)::Rel.is (.i 0)::Rel.is (.bool true)::Rel.is (.bool true)::Rel.is (.bool true)::Rel.is (.i 0)::Rel.is (.bool true)::Rel.is (.bool true)::Rel.is (.bool true)::Rel.is (.q bu 0)::(λv w1=>∃m:aH,v=m.v∧m.bg=⟨255,0,0,255⟩)::Rel.is (.agg #[.u 255,.u 0,.u 0,.u 255])::Rel.is (.agg #[.u 255,.u 0,.u 0,.u 255])::Rel.is (.bool true)::Rel.is (.bool true)::Rel.is (.bool true)::[]) 57 0 (.bool true) ⟨aG _,aG _,aG _,aG _,aG _,aG _,aG _,aG _,aG _,aG _,aG _,aG _,λ_ _ _ k h=>by obtain⟨m,e,h⟩:=h; exact⟨m,e,h.below k⟩,aG _,aG _,aG _,aG _,aG _,aG _,aG _,aG _,aG _,aG _,aG _,aG _,aG _,aG _,aG _,aG _,λ_ _ _ k h=>by obtain⟨m,e,h⟩:=h; exact⟨m,e,h⟩,aG _,aG _,aG _,aG _,aG _,aG _,aG _,aG _,aG _,aG _,aG _,aG _,aG _,aG _,aG _,aG _,aG _,aG _,aG _,aG _,aG _,aG _,λ_ _ _ k h=>by obtain⟨m,e,h⟩:=h; exact⟨m,e,h⟩,aG _,aG _,aG _,aG _,aG _,G⟩ ⟨λρ u1 hs ho hC hD=>azu hs [(4,.i 0)] ⟨(ho 4 I).trans (S.s.ev I),G⟩,
  λρ u1 hs ho hC hD=>azu hs [(63,.i 0)] ⟨hD.1 I,G⟩,
  λρ u1 hs ho hC hD=>azu hs [(64,.bool true)] ⟨hD.1 I,G⟩,
  λρ u1 hs ho hC hD=>⟨λ_=>azu hs [(5,.i 8)] ⟨(ho 5 I).trans (S.s.ev I),G⟩,λhn=>absurd (hD.1 I) hn⟩,
  λρ u1 hs ho hC hD=>⟨λ_=>azu hs [(66,.i 8)] ⟨hD.1 I,G⟩,λhn=>absurd (hD.2.1 I) hn⟩,
  λρ u1 hs ho hC hD=>azu hs [(65,.bool true),(67,.bool true)] ⟨hD.1 I,hD.2.1 I,G⟩,
  λρ u1 hs ho hC hD=>azu hs [(68,.bool true)] ⟨hD.1 I,G⟩,
  λρ u1 hs ho hC hD=>⟨λ_=>azu hs [(6,.i 0)] ⟨(ho 6 I).trans (S.s.ev I),G⟩,λhn=>absurd (hD.1 I) hn⟩,
  λρ u1 hs ho hC hD=>⟨λ_=>azu hs [(70,.i 0)] ⟨hD.1 I,G⟩,λhn=>absurd (hD.2.1 I) hn⟩,
  λρ u1 hs ho hC hD=>azu hs [(69,.bool true),(71,.bool true)] ⟨hD.1 I,hD.2.1 I,G⟩,
  λρ u1 hs ho hC hD=>azu hs [(72,.bool true)] ⟨hD.1 I,G⟩,
  λρ u1 hs ho hC hD=>⟨λ_=>dld ((ho 7 I).trans (S.s.ev I)) (((S.bx 1).ext hC).range 0 7 I),λhn=>absurd (hD.1 I) hn⟩,
  λρ u1 hs ho hC hD=>⟨λ_=>Sx.dc (T:=λv w1=>∃m:aH,v=m.v∧xI w1 m) hs [] trivial ((Jv _).mono λe w2 ⟨m,h1,h2,h3⟩=>⟨_,h1,h3,m,I,h2⟩),λhn=>absurd (hD.1 I) hn⟩,
  λρ u1 hs ho hC hD=>⟨λ_=>Sx.dc (T:=Rel.is (.bool true)) hs [(74,q.v),(75,ρ (.tmp 75))] ⟨hD.1 I,I,G⟩ ((amc (hD.2.1 I) (hqs.1.below hC) hqk).mono λe w2 h=>⟨_,h.1,h.2,I⟩),λhn=>absurd (hD.2.2.2.1 I) hn⟩,
  λρ u1 hs ho hC hD=>azu hs [(73,.bool true),(76,.bool true)] ⟨hD.1 I,hD.2.1 I,G⟩,
  λρ u1 hs ho hC hD=>azu hs [(77,.bool true)] ⟨hD.1 I,G⟩,
  λρ u1 hs ho hC hD=>⟨λ_=>azu hs [(8,.i 20)] ⟨(ho 8 I).trans (S.s.ev I),G⟩,λhn=>absurd (hD.1 I) hn⟩,
  λρ u1 hs ho hC hD=>⟨λ_=>azu hs [(79,.i 20)] ⟨hD.1 I,G⟩,λhn=>absurd (hD.2.1 I) hn⟩,
  λρ u1 hs ho hC hD=>azu hs [(78,.bool true),(80,.bool true)] ⟨hD.1 I,hD.2.1 I,G⟩,
  λρ u1 hs ho hC hD=>azu hs [(81,.bool true)] ⟨hD.1 I,G⟩,
  λρ u1 hs ho hC hD=>⟨λ_=>azu hs [(9,.i 0)] ⟨(ho 9 I).trans (S.s.ev I),G⟩,λhn=>absurd (hD.1 I) hn⟩,
  λρ u1 hs ho hC hD=>⟨λ_=>azu hs [(83,.i 0)] ⟨hD.1 I,G⟩,λhn=>absurd (hD.2.1 I) hn⟩,
  λρ u1 hs ho hC hD=>azu hs [(82,.bool true),(84,.bool true)] ⟨hD.1 I,hD.2.1 I,G⟩,
  λρ u1 hs ho hC hD=>azu hs [(85,.bool true)] ⟨hD.1 I,G⟩,
  λρ u1 hs ho hC hD=>⟨λ_=>azu hs [(10,.i 20)] ⟨(ho 10 I).trans (S.s.ev I),G⟩,λhn=>absurd (hD.1 I) hn⟩,
  λρ u1 hs ho hC hD=>⟨λ_=>azu hs [(87,.i 20)] ⟨hD.1 I,G⟩,λhn=>absurd (hD.2.1 I) hn⟩,
  λρ u1 hs ho hC hD=>azu hs [(86,.bool true),(88,.bool true)] ⟨hD.1 I,hD.2.1 I,G⟩,
  λρ u1 hs ho hC hD=>azu hs [(89,.bool true)] ⟨hD.1 I,G⟩,
  λρ u1 hs ho hC hD=>⟨λ_=>azu hs [(1,.q bh 0)] ⟨(ho 1 I).trans (S.s.ev I),G⟩,λhn=>absurd (hD.1 I) hn⟩,
  λρ u1 hs ho hC hD=>⟨λ_=>Sx.dc (T:=λv w1=>∃m:aH,v=m.v∧m.bg=⟨255,0,0,255⟩) hs [(91,.q bh 0)] ⟨hD.1 I,G⟩ ((Gi ((S.bx 3).ext hC) afA (az3 hmH hC)).mono λe w2 ⟨m,h1,h2,h3,h4,h5,h6⟩=>⟨_,h1,h6,m,I,by rw[hk7]at h4; exact az0 aX.bg h4⟩),λhn=>absurd (hD.2.1 I) hn⟩,
  λρ u1 hs ho hC hD=>⟨λ_=>(by obtain⟨⟨mw,mh,mb,ma,mc,ml⟩,em,hb⟩:=(hD.1 I); obtain rfl:mb=_:=hb; exact azu hs [(92,aH.v ⟨mw,mh,_,ma,mc,ml⟩)] ⟨em,G⟩),λhn=>absurd (hD.2.1 I) hn⟩,
  λρ u1 hs ho hC hD=>⟨λ_=>dld ((ho 3 I).trans (S.s.ev I)) (((S.bx 2).ext hC).range 0 4 I),λhn=>absurd (hD.1 I) hn⟩,
  λρ u1 hs ho hC hD=>⟨λ_=>azu hs [(93,.agg #[.u 255,.u 0,.u 0,.u 255]),(94,.agg #[.u 255,.u 0,.u 0,.u 255])] ⟨hD.1 I,hD.2.1 I,G⟩,λhn=>absurd (hD.2.2.1 I) hn⟩,
  λρ u1 hs ho hC hD=>azu hs [(90,.bool true),(95,.bool true)] ⟨hD.1 I,hD.2.1 I,G⟩,
  λρ u1 hs ho hC hD=>azu hs [(96,.bool true)] ⟨hD.1 I,G⟩,
  λρ u1 hs ho hC hD=>⟨λ_=>azu hs [(11,.i 1)] ⟨(ho 11 I).trans (S.s.ev I),G⟩,λhn=>absurd (hD.1 I) hn⟩,
  λρ u1 hs ho hC hD=>⟨λ_=>azu hs [(98,.i 1)] ⟨hD.1 I,G⟩,λhn=>absurd (hD.2.1 I) hn⟩,
  λρ u1 hs ho hC hD=>azu hs [(97,.bool true),(99,.bool true)] ⟨hD.1 I,hD.2.1 I,G⟩,
  λρ u1 hs ho hC hD=>azu hs [(100,.bool true)] ⟨hD.1 I,G⟩,
  λρ u1 hs ho hC hD=>⟨λ_=>azu hs [(12,.i 1)] ⟨(ho 12 I).trans (S.s.ev I),G⟩,λhn=>absurd (hD.1 I) hn⟩,
  λρ u1 hs ho hC hD=>⟨λ_=>azu hs [(102,.i 1)] ⟨hD.1 I,G⟩,λhn=>absurd (hD.2.1 I) hn⟩,
  λρ u1 hs ho hC hD=>azu hs [(101,.bool true),(103,.bool true)] ⟨hD.1 I,hD.2.1 I,G⟩,
  λρ u1 hs ho hC hD=>azu hs [(104,.bool true)] ⟨hD.1 I,G⟩,
  λρ u1 hs ho hC hD=>⟨λ_=>azu hs [(14,.i 0)] ⟨(ho 14 I).trans (S.s.ev I),G⟩,λhn=>absurd (hD.1 I) hn⟩,
  λρ u1 hs ho hC hD=>⟨λ_=>azu hs [(106,.i 0)] ⟨hD.1 I,G⟩,λhn=>absurd (hD.2.1 I) hn⟩,
  λρ u1 hs ho hC hD=>azu hs [(105,.bool true),(107,.bool true)] ⟨hD.1 I,hD.2.1 I,G⟩,
  λρ u1 hs ho hC hD=>azu hs [(108,.bool true)] ⟨hD.1 I,G⟩,
  λρ u1 hs ho hC hD=>⟨λ_=>azu hs [(16,.i 0)] ⟨(ho 16 I).trans (S.s.ev I),G⟩,λhn=>absurd (hD.1 I) hn⟩,
  λρ u1 hs ho hC hD=>⟨λ_=>azu hs [(110,.i 0)] ⟨hD.1 I,G⟩,λhn=>absurd (hD.2.1 I) hn⟩,
  λρ u1 hs ho hC hD=>azu hs [(109,.bool true),(111,.bool true)] ⟨hD.1 I,hD.2.1 I,G⟩,
  λρ u1 hs ho hC hD=>azu hs [(112,.bool true)] ⟨hD.1 I,G⟩,
  λρ u1 hs ho hC hD=>⟨λ_=>azu hs [(15,.q bu 0)] ⟨(ho 15 I).trans (S.s.ev I),G⟩,λhn=>absurd (hD.1 I) hn⟩,
  λρ u1 hs ho hC hD=>⟨λ_=>Sx.dc (T:=λv w1=>∃m:aH,v=m.v∧m.bg=⟨255,0,0,255⟩) hs [(114,.q bu 0)] ⟨hD.1 I,G⟩ ((Gi ((S.bx 0).ext hC) ahP (az3 hmG hC)).mono λe w2 ⟨m,h1,h2,h3,h4,h5,h6⟩=>⟨_,h1,h6,m,I,by rw[hkG]at h4; exact az0 aX.bg h4⟩),λhn=>absurd (hD.2.1 I) hn⟩,
  λρ u1 hs ho hC hD=>⟨λ_=>(by obtain⟨⟨mw,mh,mb,ma,mc,ml⟩,em,hb⟩:=(hD.1 I); obtain rfl:mb=_:=hb; exact azu hs [(115,aH.v ⟨mw,mh,_,ma,mc,ml⟩)] ⟨em,G⟩),λhn=>absurd (hD.2.1 I) hn⟩,
  λρ u1 hs ho hC hD=>⟨λ_=>dld ((ho 3 I).trans (S.s.ev I)) (((S.bx 2).ext hC).range 0 4 I),λhn=>absurd (hD.1 I) hn⟩,
  λρ u1 hs ho hC hD=>⟨λ_=>azu hs [(116,.agg #[.u 255,.u 0,.u 0,.u 255]),(117,.agg #[.u 255,.u 0,.u 0,.u 255])] ⟨hD.1 I,hD.2.1 I,G⟩,λhn=>absurd (hD.2.2.1 I) hn⟩,
  λρ u1 hs ho hC hD=>azu hs [(113,.bool true),(118,.bool true)] ⟨hD.1 I,hD.2.1 I,G⟩,
  λρ u1 hs ho hC hD=>azu hs [(119,.bool true)] ⟨hD.1 I,G⟩,G⟩ (λac u E45 S=>?_) I
 refine zdF S 58 λS=>apB S (.bool true) (λS=>?_);exact⟨I,S.E⟩
end
section
def bF.over(e f:bF):Bool:=(e.kind==f.kind)&&((e.kind==5)||((e.kind==4)&&(e.node.id==f.node.id)))
theorem XP{s a b:aX}{e f:bF}(h:dA s e=(a,0))(k:dA a f=(b,0))(ho:f.over e=true):dA s f=(b,0):=by
 obtain⟨h1,h2,l,h3,rfl,h5⟩:=yh h;obtain⟨k1,k2,m,k3,rfl,k5⟩:=yh k;unfold bF.over at ho;simp only[az7,aBy,az4]at ho;obtain⟨hk,hc⟩:=ho;rcases hc with hc | ⟨hc,hid⟩
 .have e1:iI s.ns e = .ok s.ns:=by unfold iI; rw[azP Z,azP Z,azP Z,azP Z]
  rw[e1,aBE]at h3;subst h3;have e2:iI (s.with' e s.ns).ns f = .ok s.ns:=by unfold iI; rw[azP Z,azP Z,azP Z,azP Z]; rfl
  rw[e2,aBE]at k3;subst k3;have e3:iI s.ns f = .ok s.ns:=by unfold iI; rw[azP Z,azP Z,azP Z,azP Z]
  have e4:(s.with' e s.ns).with' f s.ns=s.with' f s.ns:=by unfold aX.with'; simp[hc]
  rw[e4]at k5 |-;exact yj h1 k2 e3 k5
 unfold iI at h3 k3;rw[azP Z,azP Z,azP Z,azQ Z]at h3;rw[azP Z,azP Z,azP Z,azQ hc]at k3;cases hf:jM s.ns e.node.id with
 | none=>rw[hf]at h3; cases h3
 | some i =>
  rw[hf]at h3;simp only at h3;split at h3
  .cases h3
  rename_i hd;simp only[aBE]at h3;subst h3;obtain⟨hi,aze⟩:=Aq hf;have hns:(s.with' e (s.ns.set i e.node)).ns=s.ns.set i e.node:=I;have hf2:jM (s.ns.set i e.node) f.node.id=some i:=by
   have hn:=(Oq.1 (aX.kE.1 h5).2.2).2.1;have:=adP (l:=s.ns.set i e.node) (i:=i) hn (by simpa using hi);rw[List.getElem_set_self,<-hid]at this;exact this
  rw[hns,hf2]at k3;simp only at k3;split at k3
  .cases k3
  rename_i hd2;simp only[aBE]at k3;subst k3;have hdk:Cc (s.ns.set i e.node) i=e.node.depth:=by unfold Cc; simp[hi]
  rw[hdk]at hd2;have e3:iI s.ns f = .ok (s.ns.set i f.node):=by
   unfold iI;rw[azP Z,azP Z,azP Z,azQ hc,hid,hf];simp only;rw[azP Z]
  have e4:(s.with' e (s.ns.set i e.node)).with' f ((s.ns.set i e.node).set i f.node)=s.with' f (s.ns.set i f.node):=by
   unfold aX.with'; simp only[List.set_set,azP (show ¬e.kind=5 by omega),azP (show ¬f.kind=5 by omega)]
  rw[e4]at k5 |-;exact yj h1 k2 e3 k5
noncomputable def cmpL(n:HK):List bF->HK
 | []=>n
 | [e]=>(n.put e).1
 | e::f::r=>if f.over e then cmpL n (f::r)else cmpL (n.put e).1 (f::r)
noncomputable def HK.compact(h:HK):HK:=cmpL ⟨h.ss.take 1,[],0⟩ (h.es.take h.k)
structure zI (ss:List aX) (kept:List bF) (i:Nat) (n:HK):Prop where
 ok:n.Ok
 k:n.k=n.es.length
 le:n.es.length<=i
 next:∀e t,kept[i]?=some e->ss[i+1]?=some t->dA n.now e=(t,0)
 fin:i=kept.length->ss[i]?=some n.now
 s0:n.ss[0]?=ss[0]?
theorem K14{n:HK}(o:n.Ok){e:bF}{t:aX}(h:dA n.now e=(t,0)):(n.put e).1=⟨n.ss.take (n.k+1)++[t],n.es.take n.k++[e],n.k+1⟩∧(n.put e).2=0∧(n.put e).1.now=t:=by
 have hl:=o.hs.len;have hk:=o.k;have e1:n.put e=(⟨n.ss.take (n.k+1)++[t],n.es.take n.k++[e],n.k+1⟩,0):=by unfold HK.put; rw[h,azQ I]
 rw[e1];refine⟨I,I,?_⟩;have l1:(n.ss.take (n.k+1)).length=n.k+1:=by rw[aAN]; omega
 show(((n.ss.take (n.k+1)++[t])[n.k+1]?).getD .zero)=t;rw[List.getElem?_append_right Z,l1,aBK]; rfl
theorem zI.start{ss:List aX}{es:List bF}(h:Hs ss es){k:Nat}(hk:k<=es.length):zI ss (es.take k) 0 ⟨ss.take 1,[],0⟩:=by
 have hl:=h.len;obtain⟨s,r,rfl⟩:∃s r,ss=s::r:=by cases ss with | nil=>simp at hl | cons s r=>exact⟨s,r,I⟩
 refine⟨⟨Hs.new (h.val s az5),azS _,azZ _⟩,I,azS _,λe t he ht=>?_,λ_=>rfl,I⟩;have he':es[0]?=some e:=by
  rw[List.getElem?_take]at he;split at he
  .exact he
  cases he
 obtain⟨a,b,h1,h2,h3⟩:=h.step 0 e he';rw[ht,azT]at h2;rw[<-h2]at h3;simp only[List.getElem?_cons_zero,azT]at h1;rw[<-h1]at h3;exact h3
theorem zI.skip{ss:List aX}{es:List bF}(h:Hs ss es){k i:Nat}{n:HK}(c:zI ss (es.take k) i n){e f:bF}(hi:i+1<(es.take k).length)(he:(es.take k)[i]?=some e)(hf:(es.take k)[i+1]?=some f)(ho:f.over e=true):zI ss (es.take k) (i+1) n:=by
 have hl:=h.len;simp only[aAN]at hi;have hf':es[i+1]?=some f:=by rw[List.getElem?_take]at hf; split at hf; exact hf; cases hf
 obtain⟨a,b,h1,h2,h3⟩:=h.step (i+1) f hf';refine⟨c.ok,c.k,by have:=c.le; omega,λx t hx ht=>?_,λhh=>(by simp only[aAN]at hh; omega),c.s0⟩;rw[hf,azT]at hx;subst hx;rw[ht,azT]at h2;subst h2;exact XP (c.next e a he h1) h3 ho
theorem zI.put{ss:List aX}{es:List bF}(h:Hs ss es){k i:Nat}{n:HK}(c:zI ss (es.take k) i n){e:bF}(hi:(es.take k)[i]?=some e)(h256:es.length<=256):zI ss (es.take k) (i+1) (n.put e).1∧(n.put e).2=0:=by
 have hl:=h.len;have hlt:=(List.getElem?_eq_some_iff.1 hi).1;simp only[aAN]at hlt;have hi':es[i]?=some e:=by rw[List.getElem?_take]at hi; split at hi; exact hi; cases hi
 obtain⟨a,b,h1,h2,h3⟩:=h.step i e hi';have hb:=c.next e b hi h2;obtain⟨p1,p2,p3⟩:=K14 c.ok hb;have hle:=c.le;have hk:=c.k;have hne:=c.ok.hs.len;refine⟨⟨c.ok.put Z e,by rw[p1]; simp; omega,by rw[p1]; simp; omega,λx t hx ht=>?_,λ_=>by rw[p3]; exact h2,?_⟩,p2⟩
 .rw[p3];have hx':es[i+1]?=some x:=by rw[List.getElem?_take]at hx; split at hx; exact hx; cases hx
  obtain⟨a',b',k1,k2,k3⟩:=h.step (i+1) x hx';rw[h2,azT]at k1;rw[ht,azT]at k2;rw[k1,k2]; exact k3
 rw[p1];have:(n.ss.take (n.k+1)).length=n.k+1:=by rw[aAN]; omega
 rw[List.getElem?_append_left Z,List.getElem?_take_of_lt Z];exact c.s0
structure vW (h:HK) (i:Nat) (n:HK):Prop where
 st:zI h.ss (h.es.take h.k) i n
 run:cmpL n ((h.es.take h.k).drop i)=h.compact
 ok:h.Ok
theorem vW.start{h:HK}(o:h.Ok):vW h 0 ⟨h.ss.take 1,[],0⟩:=⟨zI.start o.hs o.k,I,o⟩
theorem uh{α:Type}{l:List α}{i:Nat}{e:α}(h:l[i]?=some e):l.drop i=e::l.drop (i+1):=by
 obtain⟨hi,rfl⟩:=List.getElem?_eq_some_iff.1 h;exact aAZ hi
theorem vW.skip{h n:HK}{i:Nat}{e f:bF}(c:vW h i n)(he:(h.es.take h.k)[i]?=some e)(hf:(h.es.take h.k)[i+1]?=some f)(ho:f.over e=true):vW h (i+1) n:=by
 refine⟨c.st.skip c.ok.hs (List.getElem?_eq_some_iff.1 hf).1 he hf ho,?_,c.ok⟩;rw[<-c.run,uh he,uh hf];show _=if f.over e then _ else _
 rw[azQ ho]
theorem vW.put{h n:HK}{i:Nat}{e:bF}(c:vW h i n)(he:(h.es.take h.k)[i]?=some e)(ho:∀f,(h.es.take h.k)[i+1]?=some f->f.over e=false):vW h (i+1) (n.put e).1∧(n.put e).2=0∧n.k≠256:=by
 obtain⟨h1,h2⟩:=c.st.put c.ok.hs he c.ok.most;refine⟨⟨h1,?_,c.ok⟩,h2,?_⟩
 .rw[<-c.run,uh he];cases hd:(h.es.take h.k)[i+1]? with
  | none=>rw[aA7 (List.getElem?_eq_none_iff.1 hd)]; rfl
  | some f =>
   rw[uh hd];show _=if f.over e then _ else _
   rw[azP (by rw[ho f hd]; decide)]
 have h3:=(List.getElem?_eq_some_iff.1 he).1;have h4:=c.st.k;have h5:=c.st.le;have h6:=c.ok.most;simp only[aAN]at h3;omega
theorem vW.fin{h n:HK}{i:Nat}(c:vW h i n)(hi:i=(h.es.take h.k).length):n=h.compact:=by
 rw[<-c.run,aA7 Z]; rfl
structure Jw (H:HK) (l:List bF) (ns:List aQ):Prop where
 ok:H.Ok
 es:H.es=l
 k:H.k=l.length
 now:∃d,H.now=⟨2,1,d,ns⟩
theorem Jw.put{H:HK}{es:List bF}{ns ms:List aQ}{e:bF}{c:bD}(h:Jw H es ns)(hl:es.length<256)(ha:∀d,H.now=⟨2,1,d,ns⟩->∃c,dA H.now e=(⟨2,1,c,ms⟩,0)):Jw (H.app e).1 (es++[e]) ms:=by
 obtain⟨d,hd⟩:=h.now;obtain⟨c,hc⟩:=ha d hd;have h1:H.app e=H.put e:=by unfold HK.app; rw[azP (by rw[h.k]; omega)]
 obtain⟨p1,p2,p3⟩:=K14 h.ok hc;rw[h1];refine⟨h.ok.put (by rw[h.k]; omega) e,?_,?_,c,p3⟩
 .rw[p1,<-h.es]; show H.es.take H.k++[e]=_; rw[aAv (by rw[h.es,h.k]; omega)]
 rw[p1]; show H.k+1=_; rw[h.k]; simp
theorem Jw.set{H:HK}{es:List bF}{ns:List aQ}(h:Jw H es ns)(hl:es.length<256)(c:bD):Jw (H.app (pF c)).1 (es++[pF c]) ns:=
 h.put (c:=c) hl λd hd=>⟨c,by
  have hv:=h.ok.hs.val _ (List.mem_of_getElem? h.ok.at)
  rw[Nk hv,hd]⟩
theorem Jw.rm{H:HK}{es:List bF}{n:aQ}(h:Jw H es [n])(hN:Pg n)(hl:es.length<256):Jw (H.app (.remove 1)).1 (es++[.remove 1]) []:=
 h.put (c := .none) hl λd hd=>⟨d,by rw[hd]; exact hN.rm1 d⟩
theorem Jw.new{n:aQ}(hN:Pg n){d:bD}{H:HK}(hk:H=⟨[xH n d],[],0⟩):Jw H [] [n]:=by
 subst hk; exact⟨⟨Hs.new (hN.valid d),azS _,azZ _⟩,I,I,d,I⟩
def kept:List bF->Nat
 | []=>0
 | [_]=>1
 | e::f::r=>if f.over e then kept (f::r)else 1+kept (f::r)
theorem ahU{n:HK}{e:bF}(h:(n.put e).2=0)(hk:n.k=n.es.length):(n.put e).1.es.length=n.es.length+1:=by
 unfold HK.put at h |-;split
 .show(n.es.take n.k++[e]).length=_;rw[aAv Z]; simp
 rename_i hn; rw[azP hn]at h; exact absurd h hn
theorem vW.len{h:HK}:∀(L:List bF) {n:HK} {i:Nat},vW h i n->i<=(h.es.take h.k).length->(h.es.take h.k).drop i=L ->
  h.compact.es.length=n.es.length+kept L∧h.compact.k=h.compact.es.length∧h.ss[(h.es.take h.k).length]?=some h.compact.now:=by
 intro L;induction L with
 | nil =>
  intro n i c hi hL;have hi:i=(h.es.take h.k).length:=Nat.le_antisymm hi (List.drop_eq_nil_iff.1 hL);have e:=c.fin hi;rw[<-e,<-hi];exact⟨I,c.st.k,c.st.fin hi⟩
 | cons e r ih =>
  intro n i c hi hL;have he:(h.es.take h.k)[i]?=some e:=by have:=az0 (λl=>l[0]?) hL; simpa using this
  have hr:=hL;rw[uh he,aAp]at hr;have hi2:=(List.getElem?_eq_some_iff.1 he).1;have hput:(∀f,(h.es.take h.k)[i+1]?=some f->f.over e=false)->h.compact.es.length=n.es.length+(1+kept r)∧h.compact.k=h.compact.es.length∧h.ss[(h.es.take h.k).length]?=some h.compact.now:=λhno=>by
   obtain⟨c1,c2,-⟩:=c.put he hno;have h1:=ih c1 hi2 hr.2;rw[ahU c2 c.st.k]at h1;exact⟨by rw[h1.1]; omega,h1.2⟩
  cases r with
  | nil=>exact hput λf hf=>by have:=List.drop_eq_nil_iff.1 hr.2; have:=(List.getElem?_eq_some_iff.1 hf).1; omega
  | cons f r =>
   have hf:(h.es.take h.k)[i+1]?=some f:=by have:=az0 (λl=>l[0]?) hr.2; simpa using this
   show _=_+(if f.over e then _ else _)∧_;by_cases ho:f.over e=true
   .rw[azQ ho]; exact ih (c.skip he hf ho) hi2 hr.2
   rw[azP ho]; exact hput λg hg=>by rw[hf]at hg; cases hg; simpa using ho
theorem Jw.cmp{H:HK}{es:List bF}{ns:List aQ}(h:Jw H es ns):H.compact.es.length=kept es∧H.compact.k=kept es∧H.compact.now.ns=ns:=by
 have ht:H.es.take H.k=es:=by rw[aAv (by rw[h.es,h.k]; exact azS _),h.es]
 obtain⟨h1,h2,h3⟩:=(vW.start h.ok).len _ (azZ _) I;obtain⟨d,hd⟩:=h.now;rw[ht]at h1 h3;rw[<-h.k,h.ok.at,azT]at h3;have h4:H.compact.es.length=kept es:=h1.trans (aAK _);exact⟨h4,h2.trans h4,by rw[<-h3,hd]⟩
theorem UE(c:bD):∀m,kept (List.replicate m (pF c))=min m 1
 | 0=>rfl
 | 1=>rfl
 | m+2=>(UE c (m+1)).trans Z
theorem P8(c:bD)(m:Nat):∀n,kept (List.replicate n (pF c) ++ .remove 1::List.replicate m (pF c))=1+min n 1+min m 1
 | 0=>by
  cases m with
  | zero=>rfl
  | succ m=>exact(az0 (1 + ·) (UE c (m+1)))
 | 1=>by
  have h:=P8 c m 0
  exact(az0 (1 + ·) h).trans Z
 | n+2=>(P8 c m (n+1)).trans Z
theorem amg{c:bD}{n m:Nat}:∀e∈List.replicate n (pF c) ++ .remove 1::List.replicate m (pF c),EdS e:=λe he=>by
 rcases aAu.1 he with h | h
 .rw[List.eq_of_mem_replicate h]; exact .inr I
 rcases az2.1 h with h | h
 .rw[h]; exact .inl I
 rw[List.eq_of_mem_replicate h]; exact .inr I
