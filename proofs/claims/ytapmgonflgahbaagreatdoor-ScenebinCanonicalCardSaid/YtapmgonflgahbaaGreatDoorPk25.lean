/- Package scene: what it asks of scenes. Package scene: -/
import Derived.Test.YtapmgonflgahbaaGreatDoorPk24
set_option linter.unusedVariables false
namespace Go.Proofs.YtapmgonflgahbaaGreatDoor
open _root_.Go.Proofs.Tryz
section
open Go.RowKit
variable{α:Type}{K:Nat}
abbrev keys (l:List aA):List dF:=l.map aA.key
theorem aco{s:ji}(h:((((decide (s.w<1))||(decide (256<s.w)))||(decide (s.h<1)))||(decide (256<s.h)))=true):s.chk=(6,0):=by
 unfold ji.chk;rw[awl (by simpa[or_assoc]using h)]
theorem uJ{s:ji}(h:((((decide (s.w<1))||(decide (256<s.w)))||(decide (s.h<1)))||(decide (256<s.h)))=false):s.chk=if 64<s.ns.length then (5,64)else lN [] s.ns:=by
 unfold ji.chk;rw[awj (by simpa[or_assoc,and_assoc]using h)]
theorem G8{l:List dF}{k:Nat}(hk:k<l.length):lN (l.take k) (l.drop k)=if kF (l.take k) l[k]=0 then lN (l.take (k+1)) (l.drop (k+1))else (kF (l.take k) l[k],(k:Int)):=by
 rw[axz hk,axp hk];conv=>lhs; unfold lN
 rw[ayw,Nat.min_eq_left (by omega)]
theorem G9{l:List aA}{k:Nat}(hk:k<l.length){x:aA}(hx:l[k]=x):(keys l)[k]'(by simpa using hk)=x.key:=by simp[keys,hx]
theorem LW(l:List aA)(k:Nat)(id:Int):((l.take k).map aA.id).any (· == id)=((keys l).take k).any fun κ=>κ.id==id:=by
 rw[←List.map_take,List.any_map,List.any_map]; rfl
structure xO (l:List aA) (k:Nat) (m:Int):Prop where
 all:lN [] (keys l)=lN ((keys l).take k) ((keys l).drop k)
 room:m=Dw ((keys l).take k)
theorem xO.start(l:List aA):xO l 0 0:=⟨by simp,rfl⟩
theorem xO.bad{l:List aA}{k:Nat}{m n:Int}{x:aA}(h:xO l k m)(hk:k<l.length)(hx:l[k]=x)(hw:kF ((keys l).take k) x.key=n)(hn:n≠0):lN [] (keys l)=(n,(k:Int)):=by
 rw[h.all,G8 (by simpa using hk),G9 hk hx,hw,awj hn]
theorem xO.next{l:List aA}{k:Nat}{m m':Int}{x:aA}(h:xO l k m)(hk:k<l.length)(hx:l[k]=x)(hw:kF ((keys l).take k) x.key=0)(hm:m'=if x.kind=1 then x.depth+1 else x.depth):xO l (k+1) m':=by
 have hk':k<(keys l).length:=by simpa using hk
 refine⟨?_,?_⟩
 ·rw[h.all,G8 hk',G9 hk hx,hw,awl rfl]
 rw[axp hk',Uu,G9 hk hx,hm]; rfl
theorem xO.done{l:List aA}{k:Nat}{m:Int}(h:xO l k m)(hk:l.length≤k):lN [] (keys l)=(0,0):=by
 rw[h.all,axR (by simpa using hk)]; rfl
theorem Uz{pre:List dF}{x:aA}(h:x.checkN≠0):kF pre x.key=x.checkN:=by rw[←mG]at h ⊢; exact Ut h
theorem YN{pre:List dF}{x:aA}(h:x.checkN=0)(h2:pre.any (fun κ=>κ.id==x.id)=true):kF pre x.key=7:=by
 unfold kF;rw[mG,h,awj (by simp),awl (show(pre.any fun κ=>κ.id==x.key.id)=true from h2)]
theorem Qb{pre:List dF}{x:aA}(h:x.checkN=0)(h2:pre.any (fun κ=>κ.id==x.id)=false)(h3:Dw pre<x.depth):kF pre x.key=17:=by
 unfold kF;rw[mG,h,awj (by simp),awj (by rw[show x.key.id=x.id from rfl,h2]; simp),awj (by show ¬x.depth≤_; omega)]
theorem Qc{pre:List dF}{x:aA}(h:x.checkN=0)(h2:pre.any (fun κ=>κ.id==x.id)=false)(h3:x.depth≤Dw pre):kF pre x.key=0:=by
 unfold kF;rw[mG,h,awj (by simp),awj (by rw[show x.key.id=x.id from rfl,h2]; simp),awl (by exact h3)]
theorem YO(w:World):(zeroValue 4).run prog w = .ok (.z) w:=Sx.pI (by kernel_rfl)
theorem acp{l:List aA}{k:Nat}{x:aA}(hk:k<l.length)(hx:l[k]=x):(l.take k).map aA.id++[x.id]=(l.take (k+1)).map aA.id:=by
 rw[axp hk,aw6,hx]; rfl
set_option maxRecDepth 100000 in
set_option maxHeartbeats 3200000 in
theorem Qd{w:World}{s:bF}(h:eX K w s)(hg:cO w) :
  Calls prog 64 #[s.v] w fun e w'=>e = .returned (.tuple #[.i s.key.chk.1,.i s.key.chk.2])∧Ext w w':=by
 have hmax:s.ns.length≤9223372036854775807:=h.2.2.1.len;refine avU func64 ntmps64 (fun ac S=>?_);obtain⟨a,cap,es⟩:∃a c,s.s = .slice a s.ns.length c:=⟨_,_,rfl⟩;have hr:=h.2.2.1;rw[es]at hr;refine avP fun _ aV=>avQ S 1 s.cells fun ac u b2 E3 hb4 S=>adr S 2 [] [(2,.i 0),(3,.i 0)] fun S=>apB<|aV _ _<|awg fun _ dA=>avP fun _ jq=>adr S 18 [.mem 0 0,.mem 0 0,.mem 0 1,.mem 0 1] [(26,.bool ((((decide (s.w<1))||(decide (256<s.w)))||(decide (s.h<1)))||(decide (256<s.h))))] fun S=>apB (jq _ _ ?_);refine avR S (fun oL=>?_) (fun oL=>?_)
 ·refine avP fun _ dS=>adr S 2 [] [(2,.i 6),(3,.i 0)] fun S=>apB<|dS _ _<|Sx.rt2 S results64 ?_;exact⟨by rw[aco (s:=s.key) oL],S.E⟩
 refine awh<|dA _ _<|awg fun _ ig=>avP fun _ dZ=>adr S 4 [.mem 0 6,.re 28 s.s (.slice a s.ns.length cap)] [(30,.bool (64<(s.ns.length:Int)))] (hk:=⟨es,trivial⟩) fun S=>apB (dZ _ _ ?_);refine avR S (fun iT=>?_) (fun iT=>?_)
 ·refine avP fun _ dV=>adr S 2 [] [(2,.i 5),(3,.i 64)] fun S=>apB<|dV _ _<|awq ?_;have hq:=uJ (s:=s.key) oL;rw[show s.key.ns=keys s.ns from rfl,ayo]at hq;refine Sx.uq S results64 ?_;exact⟨by rw[hq,awl (by have:=awz iT; omega)],S.E⟩
 refine awh<|ig _ _<|avP (fun _ gW=>?_);have hold:=S.E.size;have atB:=(S.bx 0).1;refine Sx.aql S 31 (fun ac u b E0 hb hM S=>?_);have R:=aw3 S;have hbo:w.heap.size≤b∧b≠b2:=⟨by omega,by omega⟩;have IE:Sx.Ow _ (Sx.Ob [(b2,s.cells)] []) (fun W=>mD prog 3 4 W b []) _:=Sx.On.mono (Sx.Qa (hM _ _)) fun i hi=>by subst hi; exact⟨hbo.1,by simpa[Sx.Ob]using hbo.2⟩
 refine adr S 1 [] [(4,.map (some b))] fun S=>apB<|gW _ _<|avP fun _ gK=>adr S 1 [] [(5,.i 0)] fun S=>apB<|gK _ _<|awg fun _ iG=>avP fun _ iR=>adr S 4 [.mem 0 6,.re 33 s.s (.slice a s.ns.length cap)] [(33,.slice a s.ns.length cap),(34,.i s.ns.length),(35,.i 0)] (hk:=⟨es,trivial⟩) fun S=>apB<|iR _ _<|awi ?_;refine awS (ι:=Nat×Int) (fun p a' w'=>p.1≤s.ns.length∧(xO s.ns p.1 p.2)∧Sx.Rw w w' [(b2,s.cells)] []∧Sx.Ow w.heap.size (Sx.Ob [(b2,s.cells)] []) (fun W=>mD prog 3 4 W b ((s.ns.take p.1).map aA.id)) w'∧Sx.St w a' w' 67 [(0,s.v),(1,.q b2 0),(2,.i 0),(3,.i 0),(4,.map (some b)),(5,.i p.2),(33,.slice a s.ns.length cap),(34,.i s.ns.length),(35,.i p.1)] [(b2,s.cells)] []) (fun p=>s.ns.length-p.1) (0,0) ⟨awt _,xO.start _,R,IE,S.sn⟩ ?_;rintro⟨k,m⟩ ac u hI;try dsimp only at hI
 obtain⟨hk,hR,R,aiD,S⟩:=hI;refine avP fun _ gI=>adr S 1 [] [(36,.bool ((k:Int)<(s.ns.length:Int)))] fun S=>apB<|gI _ _<|awg (fun _ iZ=>?_);refine avR S (fun hc19=>?_) (fun hc19=>?_)
 ·refine awh<|iZ _ _<|awg fun _ l9=>awi<|avP (fun _ oz=>?_);have hMl:=(ax9 (aiD)).lt;have oN:k<s.ns.length:=by have:=awz hc19; omega
  obtain⟨b22,o23,rfl,x28,vk,Oy,SE⟩:=awN hr (fun _=>rfl) (k) oN;have hxo:=h.2.2.2 _ (vk▸awT oN);have S:=S.view0 Oy SE;refine adr S 3 [.idx k s.ns.length,.mem 1 0] [(37,.i k),(39,x28.v)] (hk:=⟨oN,trivial⟩) fun S=>avQ S 7 (Sx.L [.i 0,.i 0,.i 0]++Sx.za++Sx.L [.sn,.i 0,.u 0,.i 0,.z,.z,.sn,.i 0,.sn,.i 0,.i 0,.i 0,.i 0,.sn,.i 0,.sn,.i 0,.i 0,.sn,.i 0]) fun ac u b30 yM aeO S=>adr S 1 [] [(6,.i k)] fun S=>avT S 0 (off:=0) (cs:=x28.cells) rfl (fun u NZ S=>?_);have hbn:b≠b30:=by omega
  refine apB<|oz _ _<|awg fun _ qU=>avP fun _ oD=>adr S 1 [.mem 0 0] [(40,x28.v)] fun S=>avZ S 41 (yV ((h.2.2.2 _ (vk▸awT oN)).below S.E) (hg.below S.E)) fun ac u E36 S=>adr S 1 [] [(8,.i x28.checkN)] fun S=>apB<|oD _ _<|avP fun _ nV=>adr S 2 [] [(43,.bool ((x28.checkN) != 0))] fun S=>apB (nV _ _ ?_);refine avR S (fun hc38=>?_) (fun hc38=>?_)
  ·refine avP fun _ nR=>adr S 4 [] [(2,.i x28.checkN),(3,.i k)] fun S=>apB<|nR _ _<|awq ?_;have hq:=uJ (s:=s.key) oL;rw[show s.key.ns=keys s.ns from rfl,ayo]at hq;refine Sx.uq S results64 ?_;rw[awj (by have:=awG iT; omega)]at hq;exact⟨by rw[hq,hR.bad oN vk (Uz (by simpa using hc38)) (by simpa using hc38)],S.E⟩
  refine awh<|qU _ _<|awg fun _ qO=>avP fun _ wQ=>adr S 3 [.mem 0 0] [(46,.map (some b)),(48,.i x28.id)] (fun S=>?_);obtain⟨R,Y42⟩:=R.bV S (awM (axi yM aeO) (awM (Sx.Stp.XB NZ (by simp[Sx.vb])) (awJ E36)));have hMn:=ax9 ((Sx.On.step aiD Y42));refine Sx.amV S 49 hMn underlying3 underlying4 underlying174 (YO _) (hxo.1.1) fun ac S=>apB (wQ _ _ ?_);refine avR S (fun acr=>?_) (fun acr=>?_)
  ·refine avP fun _ BQ=>adr S 3 [] [(2,.i 7),(3,.i k)] fun S=>apB<|BQ _ _<|awq ?_;have hq:=uJ (s:=s.key) oL;rw[show s.key.ns=keys s.ns from rfl,ayo]at hq;refine Sx.uq S results64 ?_;rw[awj (by have:=awG iT; omega)]at hq;exact⟨by rw[hq,hR.bad oN vk (YN (by simpa using hc38) (by rw[←LW]; exact acr)) (by decide)],S.E⟩
  refine awh<|qO _ _<|awg fun _ BO=>avP fun _ uh=>adr S 4 [.mem 0 2] [(54,.bool (m<x28.depth))] fun S=>apB (uh _ _ ?_);refine avR S (fun hc47=>?_) (fun hc47=>?_)
  ·refine avP fun _ sO=>adr S 3 [] [(2,.i 17),(3,.i k)] fun S=>apB<|sO _ _<|awq ?_;have hq:=uJ (s:=s.key) oL;rw[show s.key.ns=keys s.ns from rfl,ayo]at hq;refine Sx.uq S results64 ?_;rw[awj (by have:=awG iT; omega)]at hq;exact⟨by rw[hq,hR.bad oN vk (Qb (by simpa using hc38) (by rw[←LW]; exact acr) (by have:=awz hc47; rw[←hR.room]; omega)) (by decide)],S.E⟩
  refine awh<|BO _ _<|avP fun _ uU=>adr S 3 [.mem 0 0] [(56,.map (some b)),(58,.i x28.id)] (fun S=>?_);have hMn:=ax9 ((Sx.On.step aiD Y42));refine Sx.aqn S hMn (S.E.size |> fun _=>hbo.1) underlying3 underlying4 underlying174 (by rw[ayo,ayw]; show _<9223372036854775807; omega) hxo.1.1 (fun u hM2 hgr S=>?_);have R:=aw3 S;have IE:Sx.Ow w.heap.size (Sx.Ob [(b30,x28.cells),(b2,s.cells)] []) (fun W=>mD prog 3 4 W b ((s.ns.take (k+1)).map aA.id)) u:=by
   rw[acp oN vk]at hM2;exact Sx.On.mono (Sx.Qa hM2) fun i hi=>by subst hi; exact⟨hbo.1,by simpa[Sx.Ob]using ⟨hbn,hbo.2⟩⟩
  refine apB<|uU _ _<|avP fun _ sS=>adr S 3 [.mem 0 2] [(5,.i x28.depth)] fun S=>apB<|sS _ _<|avP fun _ ES=>adr S 3 [.mem 0 1] [(63,.bool ((x28.kind)==1))] fun S=>apB (ES _ _ ?_);refine avR S (fun sU=>?_) (fun sU=>?_)
  ·refine awk<|adr S 3 [Sx.kw 65 (x28.depth+1)] [(5,.i (x28.depth+1))] (hk:=⟨Sx.agz (by have:=Bg (n:=x28) (by simpa using hc38); omega),trivial⟩) fun S=>apB<|l9 _ _<|awk<|adr S 2 [.re 66 (.i (IntKind.i64.wrap ((k:Int)+1))) (.i (k+1:Nat))] [(35,.i (k+1:Nat))] (hk:=⟨av5 (by omega),trivial⟩) fun S=>apB ?_;have S:=S.iW 1;obtain⟨R,Y53⟩:=R.bV S (axe 1);show ∃i',_∧_;exact⟨((k+1),(x28.depth+1)),⟨by omega,hR.next oN vk (Qc (by simpa using hc38) (by rw[←LW]; exact acr) (by have:=awG hc47; rw[←hR.room]; omega)) (by rw[awl (by simpa using sU)]),R,(Sx.On.step IE Y53),S.sn⟩,by show _-_<_-_; omega⟩
  refine awh<|l9 _ _<|awk<|adr S 2 [.re 66 (.i (IntKind.i64.wrap ((k:Int)+1))) (.i (k+1:Nat))] [(35,.i (k+1:Nat))] (hk:=⟨av5 (by omega),trivial⟩) fun S=>apB ?_;have S:=S.iW 1;obtain⟨R,Y54⟩:=R.bV S (axe 1);show ∃i',_∧_;exact⟨((k+1),x28.depth),⟨by omega,hR.next oN vk (Qc (by simpa using hc38) (by rw[←LW]; exact acr) (by have:=awG hc47; rw[←hR.room]; omega)) (by rw[awj (by simpa using sU)]),R,(Sx.On.step IE Y54),S.sn⟩,by show _-_<_-_; omega⟩
 refine awy<|iG _ _<|avP fun _ KQ=>adr S 2 [] [(2,.i 0),(3,.i 0)] fun S=>apB<|KQ _ _<|awq ?_;have hq:=uJ (s:=s.key) oL;rw[show s.key.ns=keys s.ns from rfl,ayo]at hq;refine Sx.uq S results64 ?_;rw[awj (by have:=awG iT; omega)]at hq;exact⟨by rw[hq,hR.done (by have:=awG hc19; omega)],S.E⟩
end
section
set_option maxHeartbeats 3200000
set_option maxRecDepth 100000
open Go.RowKit
variable{α:Type}{K:Nat}
theorem fB.eqP{w w':World}{a b:aA}(h:fB K w a)(h':fB K w' b):a.eqP b=decide (a.key=b.key):=ae5 h.nrm h'.nrm
theorem KX(c d:bW):(((c.r.toNat:Int)==d.r.toNat)&&(((c.g.toNat:Int)==d.g.toNat)&&(((c.b.toNat:Int)==d.b.toNat)&&((c.a.toNat:Int)==d.a.toNat))))=decide (c=d):=by
 rw[axA];simp only[awC,awE,CJ,awL];exact V8
theorem aiE(c d:bW)(w:World):(binOp .eql 23 (.agg c.cells.toArray) (.agg d.cells.toArray)).run prog w = .ok (.bool (c=d)) w:=by
 rw[←KX]; exact aaX ..
theorem agm(a b c d e f g h:Int)(w:World):(binOp .neq 23 (.agg #[.u a,.u b,.u c,.u d]) (.agg #[.u e,.u f,.u g,.u h])).run prog w = .ok (.bool (!((a==e)&&((b==f)&&((c==g)&&(d==h)))))) w:=by
 simp[go_sem];(repeat' split)<;>simp_all
theorem acs(c d:bW)(w:World):(binOp .neq 23 (.agg c.cells.toArray) (.agg d.cells.toArray)).run prog w = .ok (.bool (!decide (c=d))) w:=by
 rw[←KX]; exact agm ..
theorem acu{l m:List aA}{k:Nat}(hk:l.length≤k)(h:l.length=m.length)(hR:(keys l).take k=(keys m).take k):true=decide (keys l=keys m):=by
 rw[awP (by simpa using hk),awP (by simpa using (show m.length≤k by omega))]at hR;simp[hR]
theorem Wi{l m:List aA}{k:Nat}(h1:k<l.length)(h2:k<m.length)(hR:(keys l).take k=(keys m).take k){x y:aA}(hx:l[k]=x)(hy:m[k]=y)(h:(!decide (x.key=y.key))=false):(keys l).take (k+1)=(keys m).take (k+1):=by
 rw[axp (by simpa using h1),axp (by simpa using h2),hR,G9 h1 hx,G9 h2 hy];simp at h;rw[h]
theorem agC{l m:List aA}{k:Nat}(h1:k<l.length)(h2:k<m.length){x y:aA}(hx:l[k]=x)(hy:m[k]=y)(h:(!decide (x.key=y.key))=true):false=decide (keys l=keys m):=by
 symm;rw[axw];intro e;have:=awp (·[k]?) e;simp only[keys,List.getElem?_map,List.getElem?_eq_getElem h1,List.getElem?_eq_getElem h2,hx,hy,aw5,awn]at this;simp[this]at h
theorem agD{s t:bF}(h:((((s.w) != t.w)||((s.h) != t.h))||(!decide (s.bg=t.bg))||((s.ns.length:Int) != (t.ns.length:Int)))=true):false=decide (s.key=t.key):=by
 symm;rw[axw];intro e;simp only[bF.key,ji.mk.injEq]at e;have hl:=awp List.length e.2.2.2;simp at hl;simp[e.1,e.2.1,e.2.2.1,hl]at h
theorem LX{s t:bF}(h:((((s.w) != t.w)||((s.h) != t.h))||(!decide (s.bg=t.bg))||((s.ns.length:Int) != (t.ns.length:Int)))=false):s.ns.length=t.ns.length:=by
 simp at h; omega
theorem Wj{s t:bF}{b:Bool}(h:((((s.w) != t.w)||((s.h) != t.h))||(!decide (s.bg=t.bg))||((s.ns.length:Int) != (t.ns.length:Int)))=false)(hb:b=decide (keys s.ns=keys t.ns)):b=decide (s.key=t.key):=by
 rw[hb];simp at h;simp[bF.key,h]
theorem vw{w:World}{a b:aA}(h:fB K w a)(h':fB K w b):Calls prog 28 #[a.v,b.v] w fun e w'=>e = .returned (.bool (a.key=b.key))∧Ext w w':=by
 rw[←h.eqP h']; exact I9 h h'
theorem sJ{w:World}{s:bF}(h:eX K w s)(hg:cO w) :
  Calls prog 24 #[s.v] w fun e w'=>e = .returned (.bool s.key.valid)∧Ext w w':=by
 skip;refine avU func24 ntmps24 fun ac S=>avP fun _ aV=>avQ S 1 s.cells fun ac u b2 E3 hb4 S=>adr S 1 [] [(2,.z)] fun S=>apB<|aV _ _<|avP fun _ dA=>adr S 1 [.mem 0 0] [(6,s.v)] fun S=>avZ S 7 (Qd (h.below S.E) (hg.below S.E)) fun ac u E6 S=>adr S 5 [] [(3,.i s.key.chk.1)] fun S=>apB<|dA _ _<|avP fun _ jr=>adr S 3 [] [(2,.bool ((s.key.chk.1)==0))] fun S=>apB<|jr _ _<|avS S results24 ?_;exact⟨rfl,S.E⟩
theorem Qe{w:World}{s t:bF}(h:eX K w s)(h':eX K w t) :
  Calls prog 26 #[s.v,t.v] w fun e w'=>e = .returned (.bool (s.key=t.key))∧Ext w w':=by
 have hmax:s.ns.length≤9223372036854775807:=h.2.2.1.len;refine avU func26 ntmps26 (fun ac S=>?_);obtain⟨a,cap,es⟩:∃a c,s.s = .slice a s.ns.length c:=⟨_,_,rfl⟩;have hr:=h.2.2.1;rw[es]at hr;obtain⟨d,cap',et⟩:∃a c,t.s = .slice a t.ns.length c:=⟨_,_,rfl⟩;have hr':=h'.2.2.1;rw[et]at hr';refine avP fun _ aV=>avQ S 2 s.cells fun ac u b2 E3 hb4 S=>avQ S 3 t.cells fun ac u b5 E6 hb7 S=>adr S 1 [] [(4,.z)] fun S=>apB<|aV _ _<|awg fun _ dS=>avP fun _ ig=>adr S 28 [.mem 1 0,.mem 0 0,.mem 1 1,.mem 0 1,.mem 1 2,.mem 0 2,.cmp .neq 23 (.tmp 20) (.tmp 22) (.agg #[.u (s.bg.r.toNat:Int),.u (s.bg.g.toNat:Int),.u (s.bg.b.toNat:Int),.u (s.bg.a.toNat:Int)]) (.agg #[.u (t.bg.r.toNat:Int),.u (t.bg.g.toNat:Int),.u (t.bg.b.toNat:Int),.u (t.bg.a.toNat:Int)]) (.bool (!decide (s.bg=t.bg))),.mem 1 6,.re 27 s.s (.slice a s.ns.length cap),.mem 0 6,.re 30 t.s (.slice d t.ns.length cap')] [(33,.bool (((((s.w) != t.w)||((s.h) != t.h))||(!decide (s.bg=t.bg)))||(((s.ns.length:Int)) != (t.ns.length:Int))))] (hk:=⟨(awe (fun _=>acs s.bg t.bg _) (by kernel_rfl)),es,et,trivial⟩) fun S=>apB (ig _ _ ?_);refine avR S (fun dR=>?_) (fun dR=>?_)
 ·refine avP fun _ eG=>adr S 1 [] [(4,.z)] fun S=>apB<|eG _ _<|avS S results26 ?_;exact⟨aH (agD dR),S.E⟩
 refine awh<|dS _ _<|awg fun _ dV=>avP fun _ gW=>adr S 4 [.mem 1 6,.re 35 s.s (.slice a s.ns.length cap)] [(36,.i s.ns.length),(37,.i 0)] (hk:=⟨es,trivial⟩) fun S=>apB<|gW _ _<|awi ?_;refine awS (ι:=Nat) (fun p a' w'=>p≤s.ns.length∧((keys s.ns).take p=(keys t.ns).take p)∧Sx.St w a' w' 53 [(0,s.v),(1,t.v),(2,.q b2 0),(3,.q b5 0),(4,.z),(36,.i s.ns.length),(37,.i p)] [(b5,t.cells),(b2,s.cells)] []) (fun p=>s.ns.length-p) (0) ⟨awt _,rfl,S.sn⟩ ?_;rintro k ac u hI;try dsimp only at hI
 obtain⟨hk,hR,S⟩:=hI;refine avP fun _ gK=>adr S 1 [] [(38,.bool ((k:Int)<(s.ns.length:Int)))] fun S=>apB<|gK _ _<|awg (fun _ iG=>?_);refine avR S (fun hc16=>?_) (fun hc16=>?_)
 ·refine awh<|iG _ _<|awg fun _ gI=>awi<|avP fun _ iZ=>adr S 2 [] [(5,.i k)] fun S=>apB<|iZ _ _<|awg (fun _ lY=>?_);have acv:k<s.ns.length:=by have:=awz hc16; omega
  obtain⟨b21,o22,rfl,x27,hx25,aqo,aqp⟩:=awN hr (fun _=>rfl) (k) acv;have S:=S.view0 aqo aqp;have acw:k<t.ns.length:=by have:=LX dR; have:=awz hc16; omega
  obtain⟨b29,o30,rfl,y35,aiF,ab8,abq⟩:=awN hr' (fun _=>rfl) (k) acw;have S:=S.view0 ab8 abq;refine av3 S 12 [.mem 1 6,.re 41 s.s (.slice (some ⟨b21,o22,none⟩) s.ns.length cap),.idx k s.ns.length,.mem 3 0,.mem 0 6,.re 46 t.s (.slice (some ⟨b29,o30,none⟩) t.ns.length cap'),.idx k t.ns.length,.mem 2 0] [(_,_,true,.bool (x27.key=y35.key))] [(51,.bool (!(decide (x27.key=y35.key))))] ⟨fun u hC g=>vw ((h.2.2.2 _ (hx25▸awT acv)).below (Ext.trans' S.E hC)) ((h'.2.2.2 _ (aiF▸awT acw)).below (Ext.trans' S.E hC)),trivial⟩ (hk:=⟨es,acv,et,acw,trivial⟩) fun ac u uV S=>apB (lY _ _ ?_);refine avR S (fun Ea=>?_) (fun Ea=>?_)
  ·refine avP fun _ jD=>adr S 1 [] [(4,.z)] fun S=>apB<|jD _ _<|avS S results26 ?_;exact⟨aH (Wj dR (agC acv acw hx25 aiF Ea)),S.E⟩
  refine awh<|gI _ _<|awk<|adr S 2 [.re 52 (.i (IntKind.i64.wrap ((k:Int)+1))) (.i (k+1:Nat))] [(37,.i (k+1:Nat))] (hk:=⟨av5 (by omega),trivial⟩) fun S=>apB ?_;show ∃i',_∧_;exact⟨(k+1),⟨by omega,(Wi acv acw hR hx25 aiF Ea),S.sn⟩,by show _-_<_-_; omega⟩
 refine awy<|dV _ _<|avP fun _ nR=>adr S 1 [] [(4,.bool true)] fun S=>apB<|nR _ _<|avS S results26 ?_;exact⟨aH (Wj dR (acu (by have:=awG hc16; omega) (LX dR) hR)),S.E⟩
end
section
open Go.RowKit
variable{α:Type}{K:Nat}
theorem ajL:jY prog 34 138 (.agg #[.i 0,.i 0,.i 0,.i 0,.i 0,.i 0,.i 0]) 7 56:=⟨underlying34,info_parts (by kernel_rfl),rfl,by decide⟩
theorem ahc:jY prog 124 189 (.agg #[.i 0,.u 0,.u 0,.u 0,.u 0]) 5 16:=⟨underlying124,info_parts (by kernel_rfl),rfl,by decide⟩
theorem ajN:jY prog 39 192 (.agg #[.u 0,.u 0,.u 0,.u 0]) 4 4:=⟨underlying39,info_parts (by kernel_rfl),rfl,by decide⟩
theorem ajM:jY prog 36 3 (.i 0) 1 8:=⟨underlying36,info_parts (by kernel_rfl),rfl,by decide⟩
theorem ae7:jY prog 35 126 (.agg (Sx.L [.i 0,.u 0,.u 0,.u 0,.u 0,.i 0,.i 0,.i 0,.i 0,.i 0,.sn,.i 0,.i 0,.i 0,.sn,.i 0]++Sx.za).toArray) 40 520:=⟨underlying35,info_parts (by kernel_rfl),rfl,by decide⟩
theorem bI.ch{base b:Nat}{F:World→Prop}{w w':World}(h:Sx.bI base F w)(hc:Ch b w w')(hb:b<base):Sx.bI base F w':=fun w2 hs hk =>
 h w2 (awU hc.size hs) fun k hk1 hk2=>(hk k (awR hk1 hc.size) hk2).trans (hc.block k hk1 fun e=>by simp only[awn]at e; omega)
theorem fO{f:α→Value}{w:World}{v:Value}{l:List α}(h:aO 1 (fun x=>[f x]) w v l):dB f w v l:=by
 obtain⟨a,cap,hv,hm,h⟩:=h;refine⟨a,cap,hv,hm,?_⟩;rcases h with h | ⟨b,o,ha,hlt,hl,hc⟩
 ·exact .inl h
 exact .inr ⟨b,o,ha,hlt,hl,fun i hi=>by have:=hc i hi 0 (by omega); simpa using this⟩
def bD.lim(t:bD):Prop:=t.fit 1000000
end
section
open Go.RowKit
variable{α:Type}{K:Nat}
def au.lim(p:au):Prop:=p.stops.length≤10000000∧p.img.l.length≤10000000∧p.t.lim
def aA.lim(n:aA):Prop:=n.t.lim∧n.clip.length≤10000000∧n.path.length≤10000000∧n.fill.length≤10000000∧(∀p∈n.fill,p.lim)∧n.style.dash.length≤10000000∧n.stroke.length≤10000000∧(∀p∈n.stroke,p.lim)∧n.img.l.length≤10000000
end
section
open Go.RowKit
variable{α:Type}{K:Nat}
theorem aiG:jY prog 24 43 (.agg bM.cells.toArray) 47 656:=⟨underlying24,info_parts (by kernel_rfl),rfl,by decide⟩
end
section
open Go.RowKit
variable{α:Type}{K:Nat}
abbrev OwnB (base:Nat)(w:World)(v:Value)(l:List UInt8):Prop:=w.ownsRow base 5 1 v l.length (l.map fA)
theorem Wn(l:List UInt8):l.flatMap (fun n:UInt8=>[fA n])=l.map fA:=by induction l<;>simp_all
theorem rowB{base:Nat}{w:World}{v:Value}{l:List UInt8}(h:OwnB base w v l):aO 1 (fun n:UInt8=>[fA n]) w v l:=ax9 (Sx.qP (f:=fun n:UInt8=>[fA n]) (L:=l) (fun _=>rfl) h rfl (Wn l).symm)
theorem jH{base:Nat}{w:World}{v:Value}{l:List UInt8}(h:OwnB base w v l):fH w 1 v l.length (l.map fA):=by
 have:=Sx.abB (rowB h) (fun _=>rfl) (fun _=>rfl);rwa [Wn]at this
theorem kZ{base:Nat}{w:World}{v:Value}{l:List UInt8}(h:OwnB base w v l):bG w v l:=fO (rowB h)
theorem wrap_u64{n:Nat}(h:n<18446744073709551616):Value.int .u64 (IntKind.u64.wrap (n:Int)) = .int .u64 (n:Int):=by
 congr 1;rw[axr];omega
end
end Go.Proofs.YtapmgonflgahbaaGreatDoor
