/- Package scene: what it asks of scenes. Package scene: -/
import Derived.Test.YtapmgonflgahbaaGreatDoorPk30
set_option linter.unusedVariables false
namespace Go.Proofs.YtapmgonflgahbaaGreatDoor
open _root_.Go.Proofs.Tryz
section
open Go.RowKit
variable{α:Type}{K:Nat}
abbrev keys (l:List aA):List dV:=l.map aA.key
theorem VI{s:iO}(h:((((decide (s.w<1))||(decide (256<s.w)))||(decide (s.h<1)))||(decide (256<s.h)))=true):s.chk=(6,0):=by
 unfold iO.chk;rw[aib (by simpa[or_assoc]using h)]
theorem qx{s:iO}(h:((((decide (s.w<1))||(decide (256<s.w)))||(decide (s.h<1)))||(decide (256<s.h)))=false):s.chk=if 64<s.ns.length then (5,64)else jO [] s.ns:=by
 unfold iO.chk;rw[ah7 (by simpa[or_assoc,and_assoc]using h)]
theorem BU{l:List dV}{k:Nat}(hk:k<l.length):jO (l.take k) (l.drop k)=if je (l.take k) l[k]=0 then jO (l.take (k+1)) (l.drop (k+1))else (je (l.take k) l[k],(k:Int)):=by
 rw[ajg hk,ajc hk];conv=>lhs; unfold jO
 rw[ake,Nat.min_eq_left (by omega)]
theorem BX{l:List aA}{k:Nat}(hk:k<l.length){x:aA}(hx:l[k]=x):(keys l)[k]'(by simpa using hk)=x.key:=by simp[keys,hx]
theorem Gp(l:List aA)(k:Nat)(id:Int):((l.take k).map aA.id).any (· == id)=((keys l).take k).any fun κ=>κ.id==id:=by
 rw[←List.map_take,List.any_map,List.any_map]; rfl
structure tC (l:List aA) (k:Nat) (m:Int):Prop where
 all:jO [] (keys l)=jO ((keys l).take k) ((keys l).drop k)
 room:m=y8 ((keys l).take k)
theorem tC.start(l:List aA):tC l 0 0:=⟨by simp,rfl⟩
theorem tC.bad{l:List aA}{k:Nat}{m n:Int}{x:aA}(h:tC l k m)(hk:k<l.length)(hx:l[k]=x)(hw:je ((keys l).take k) x.key=n)(hn:n≠0):jO [] (keys l)=(n,(k:Int)):=by
 rw[h.all,BU (by simpa using hk),BX hk hx,hw,ah7 hn]
theorem tC.next{l:List aA}{k:Nat}{m m':Int}{x:aA}(h:tC l k m)(hk:k<l.length)(hx:l[k]=x)(hw:je ((keys l).take k) x.key=0)(hm:m'=if x.kind=1 then x.depth+1 else x.depth):tC l (k+1) m':=by
 have hk':k<(keys l).length:=by simpa using hk
 refine⟨?_,?_⟩
 ·rw[h.all,BU hk',BX hk hx,hw,aib rfl]
 rw[ajc hk',MB,BX hk hx,hm]; rfl
theorem tC.done{l:List aA}{k:Nat}{m:Int}(h:tC l k m)(hk:l.length≤k):jO [] (keys l)=(0,0):=by
 rw[h.all,ajB (by simpa using hk)]; rfl
theorem MF{pre:List dV}{x:aA}(h:x.checkN≠0):je pre x.key=x.checkN:=by rw[←uj]at h ⊢; exact Me h
theorem Ri{pre:List dV}{x:aA}(h:x.checkN=0)(h2:pre.any (fun κ=>κ.id==x.id)=true):je pre x.key=7:=by
 unfold je;rw[uj,h,ah7 (by simp),aib (show(pre.any fun κ=>κ.id==x.key.id)=true from h2)]
theorem Ju{pre:List dV}{x:aA}(h:x.checkN=0)(h2:pre.any (fun κ=>κ.id==x.id)=false)(h3:y8 pre<x.depth):je pre x.key=17:=by
 unfold je;rw[uj,h,ah7 (by simp),ah7 (by rw[show x.key.id=x.id from rfl,h2]; simp),ah7 (by show ¬x.depth≤_; omega)]
theorem Jv{pre:List dV}{x:aA}(h:x.checkN=0)(h2:pre.any (fun κ=>κ.id==x.id)=false)(h3:x.depth≤y8 pre):je pre x.key=0:=by
 unfold je;rw[uj,h,ah7 (by simp),ah7 (by rw[show x.key.id=x.id from rfl,h2]; simp),aib (by exact h3)]
theorem Rj(w:World):(zeroValue 4).run prog w = .ok (.z) w:=Sx.lQ (by kernel_rfl)
theorem VJ{l:List aA}{k:Nat}{x:aA}(hk:k<l.length)(hx:l[k]=x):(l.take k).map aA.id++[x.id]=(l.take (k+1)).map aA.id:=by
 rw[ajc hk,aiZ,hx]; rfl
set_option maxRecDepth 100000 in
set_option maxHeartbeats 3200000 in
theorem Jw{w:World}{s:bC}(h:gQ K w s)(hg:bW w) :
  Calls prog 64 #[s.v] w fun e w'=>e = .returned (.tuple #[.i s.key.chk.1,.i s.key.chk.2])∧Ext w w':=by
 have hmax:s.ns.length≤9223372036854775807:=h.2.2.1.len;refine ahO func64 ntmps64 (fun ac S=>?_);obtain⟨a,cap,es⟩:∃a c,s.s = .slice a s.ns.length c:=⟨_,_,rfl⟩;have hr:=h.2.2.1;rw[es]at hr;refine ahK fun _ aY=>ahL S 1 s.cells fun ac u b2 E3 hb4 S=>adr S 2 [] [(2,.i 0),(3,.i 0)] fun S=>ahJ<|aY _ _<|ah2 fun _ dw=>ahK fun _ iT=>adr S 18 [.mem 0 0,.mem 0 0,.mem 0 1,.mem 0 1] [(26,.bool ((((decide (s.w<1))||(decide (256<s.w)))||(decide (s.h<1)))||(decide (256<s.h))))] fun S=>ahJ (iT _ _ ?_);refine ahN S (fun vT=>?_) (fun vT=>?_)
 ·refine ahK fun _ dR=>adr S 2 [] [(2,.i 6),(3,.i 0)] fun S=>ahJ<|dR _ _<|Sx.rt2 S results64 ?_;exact⟨by rw[VI (s:=s.key) vT],S.E⟩
 refine ah4<|dw _ _<|ah2 fun _ iD=>ahK fun _ gu=>adr S 4 [.mem 0 6,.re 28 s.s (.slice a s.ns.length cap)] [(30,.bool (64<(s.ns.length:Int)))] (hk:=⟨es,trivial⟩) fun S=>ahJ (gu _ _ ?_);refine ahN S (fun jV=>?_) (fun jV=>?_)
 ·refine ahK fun _ fD=>adr S 2 [] [(2,.i 5),(3,.i 64)] fun S=>ahJ<|fD _ _<|aii ?_;have hq:=qx (s:=s.key) vT;rw[show s.key.ns=keys s.ns from rfl,ajU]at hq;refine Sx.xq S results64 ?_;exact⟨by rw[hq,aib (by have:=ain jV; omega)],S.E⟩
 refine ah4<|iD _ _<|ahK (fun _ iI=>?_);have hold:=S.E.size;have ag6:=(S.bx 0).1;refine Sx.afY S 31 (fun ac u b E0 hb hM S=>?_);have R:=ai2 S;have YC:w.heap.size≤b∧b≠b2:=⟨by omega,by omega⟩;have hMo:Sx.Ow _ (Sx.Ob [(b2,s.cells)] []) (fun W=>jW prog 3 4 W b []) _:=Sx.On.mono (Sx.Jt (hM _ _)) fun i hi=>by subst hi; exact⟨YC.1,by simpa[Sx.Ob]using YC.2⟩
 refine adr S 1 [] [(4,.map (some b))] fun S=>ahJ<|iI _ _<|ahK fun _ gU=>adr S 1 [] [(5,.i 0)] fun S=>ahJ<|gU _ _<|ah2 fun _ iJ=>ahK fun _ jQ=>adr S 4 [.mem 0 6,.re 33 s.s (.slice a s.ns.length cap)] [(33,.slice a s.ns.length cap),(34,.i s.ns.length),(35,.i 0)] (hk:=⟨es,trivial⟩) fun S=>ahJ<|jQ _ _<|ah5 ?_;refine aiM (ι:=Nat×Int) (fun p a' w'=>p.1≤s.ns.length∧(tC s.ns p.1 p.2)∧Sx.Rw w w' [(b2,s.cells)] []∧Sx.Ow w.heap.size (Sx.Ob [(b2,s.cells)] []) (fun W=>jW prog 3 4 W b ((s.ns.take p.1).map aA.id)) w'∧Sx.St w a' w' 67 [(0,s.v),(1,.q b2 0),(2,.i 0),(3,.i 0),(4,.map (some b)),(5,.i p.2),(33,.slice a s.ns.length cap),(34,.i s.ns.length),(35,.i p.1)] [(b2,s.cells)] []) (fun p=>s.ns.length-p.1) (0,0) ⟨aij _,tC.start _,R,hMo,S.sn⟩ ?_;rintro⟨k,m⟩ ac u hI;try dsimp only at hI
 obtain⟨hk,hR,R,abP,S⟩:=hI;refine ahK fun _ iq=>adr S 1 [] [(36,.bool ((k:Int)<(s.ns.length:Int)))] fun S=>ahJ<|iq _ _<|ah2 (fun _ jy=>?_);refine ahN S (fun hc19=>?_) (fun hc19=>?_)
 ·refine ah4<|jy _ _<|ah2 fun _ kP=>ah5<|ahK (fun _ mX=>?_);have hMl:=(Sx.On.self (abP)).lt;have lu:k<s.ns.length:=by have:=ain hc19; omega
  obtain⟨b22,o23,rfl,x28,qI,Ic,KI⟩:=aiy hr (fun _=>rfl) (k) lu;have hxo:=h.2.2.2 _ (qI▸aiD lu);have S:=S.view0 Ic KI;refine adr S 3 [.idx k s.ns.length,.mem 1 0] [(37,.i k),(39,x28.v)] (hk:=⟨lu,trivial⟩) fun S=>ahL S 7 (Sx.L [.i 0,.i 0,.i 0]++Sx.za++Sx.L [.sn,.i 0,.u 0,.i 0,.z,.z,.sn,.i 0,.sn,.i 0,.i 0,.i 0,.i 0,.sn,.i 0,.sn,.i 0,.i 0,.sn,.i 0]) fun ac u b30 Ht XP S=>adr S 1 [] [(6,.i k)] fun S=>ahP S 0 (off:=0) (cs:=x28.cells) rfl (fun u SH S=>?_);have hbn:b≠b30:=by omega
  refine ahJ<|mX _ _<|ah2 fun _ qE=>ahK fun _ qF=>adr S 1 [.mem 0 0] [(40,x28.v)] fun S=>ahS S 41 (uP ((h.2.2.2 _ (qI▸aiD lu)).below S.E) (hg.below S.E)) fun ac u Y0 S=>adr S 1 [] [(8,.i x28.checkN)] fun S=>ahJ<|qF _ _<|ahK fun _ mD=>adr S 2 [] [(43,.bool ((x28.checkN) != 0))] fun S=>ahJ (mD _ _ ?_);refine ahN S (fun hc38=>?_) (fun hc38=>?_)
  ·refine ahK fun _ wJ=>adr S 4 [] [(2,.i x28.checkN),(3,.i k)] fun S=>ahJ<|wJ _ _<|aii ?_;have hq:=qx (s:=s.key) vT;rw[show s.key.ns=keys s.ns from rfl,ajU]at hq;refine Sx.xq S results64 ?_;rw[ah7 (by have:=aiu jV; omega)]at hq;exact⟨by rw[hq,hR.bad lu qI (MF (by simpa using hc38)) (by simpa using hc38)],S.E⟩
  refine ah4<|qE _ _<|ah2 fun _ xX=>ahK fun _ Ac=>adr S 3 [.mem 0 0] [(46,.map (some b)),(48,.i x28.id)] (fun S=>?_);obtain⟨R,Y42⟩:=R.bZ S (aiF (ajf Ht XP) (aiF (Sx.Stp.chm SH (by simp[Sx.vb])) (ait Y0)));have hMn:=Sx.On.self ((Sx.On.step abP Y42));refine Sx.adM S 49 hMn underlying3 underlying4 underlying174 (Rj _) (hxo.1.1) fun ac S=>ahJ (Ac _ _ ?_);refine ahN S (fun VK=>?_) (fun VK=>?_)
  ·refine ahK fun _ Gi=>adr S 3 [] [(2,.i 7),(3,.i k)] fun S=>ahJ<|Gi _ _<|aii ?_;have hq:=qx (s:=s.key) vT;rw[show s.key.ns=keys s.ns from rfl,ajU]at hq;refine Sx.xq S results64 ?_;rw[ah7 (by have:=aiu jV; omega)]at hq;exact⟨by rw[hq,hR.bad lu qI (Ri (by simpa using hc38) (by rw[←Gp]; exact VK)) (by decide)],S.E⟩
  refine ah4<|xX _ _<|ah2 fun _ Vs=>ahK fun _ zB=>adr S 4 [.mem 0 2] [(54,.bool (m<x28.depth))] fun S=>ahJ (zB _ _ ?_);refine ahN S (fun hc47=>?_) (fun hc47=>?_)
  ·refine ahK fun _ zC=>adr S 3 [] [(2,.i 17),(3,.i k)] fun S=>ahJ<|zC _ _<|aii ?_;have hq:=qx (s:=s.key) vT;rw[show s.key.ns=keys s.ns from rfl,ajU]at hq;refine Sx.xq S results64 ?_;rw[ah7 (by have:=aiu jV; omega)]at hq;exact⟨by rw[hq,hR.bad lu qI (Ju (by simpa using hc38) (by rw[←Gp]; exact VK) (by have:=ain hc47; rw[←hR.room]; omega)) (by decide)],S.E⟩
  refine ah4<|Vs _ _<|ahK fun _ Af=>adr S 3 [.mem 0 0] [(56,.map (some b)),(58,.i x28.id)] (fun S=>?_);have hMn:=Sx.On.self ((Sx.On.step abP Y42));refine Sx.af0 S hMn (S.E.size |> fun _=>YC.1) underlying3 underlying4 underlying174 (by rw[ajU,ake]; show _<9223372036854775807; omega) hxo.1.1 (fun u hM2 hgr S=>?_);have R:=ai2 S;have hMo:Sx.Ow w.heap.size (Sx.Ob [(b30,x28.cells),(b2,s.cells)] []) (fun W=>jW prog 3 4 W b ((s.ns.take (k+1)).map aA.id)) u:=by
   rw[VJ lu qI]at hM2;exact Sx.On.mono (Sx.Jt hM2) fun i hi=>by subst hi; exact⟨YC.1,by simpa[Sx.Ob]using ⟨hbn,YC.2⟩⟩
  refine ahJ<|Af _ _<|ahK fun _ zD=>adr S 3 [.mem 0 2] [(5,.i x28.depth)] fun S=>ahJ<|zD _ _<|ahK fun _ TM=>adr S 3 [.mem 0 1] [(63,.bool ((x28.kind)==1))] fun S=>ahJ (TM _ _ ?_);refine ahN S (fun Ah=>?_) (fun Ah=>?_)
  ·refine aia<|adr S 3 [Sx.kw 65 (x28.depth+1)] [(5,.i (x28.depth+1))] (hk:=⟨Sx.aam (by have:=wR (n:=x28) (by simpa using hc38); omega),trivial⟩) fun S=>ahJ<|kP _ _<|aia<|adr S 2 [.re 66 (.i (IntKind.i64.wrap ((k:Int)+1))) (.i (k+1:Nat))] [(35,.i (k+1:Nat))] (hk:=⟨ahY (by omega),trivial⟩) fun S=>ahJ ?_;have S:=S.jE 1;obtain⟨R,Y53⟩:=R.bZ S (ai7 1);show ∃i',_∧_;exact⟨((k+1),(x28.depth+1)),⟨by omega,hR.next lu qI (Jv (by simpa using hc38) (by rw[←Gp]; exact VK) (by have:=aiu hc47; rw[←hR.room]; omega)) (by rw[aib (by simpa using Ah)]),R,(Sx.On.step hMo Y53),S.sn⟩,by show _-_<_-_; omega⟩
  refine ah4<|kP _ _<|aia<|adr S 2 [.re 66 (.i (IntKind.i64.wrap ((k:Int)+1))) (.i (k+1:Nat))] [(35,.i (k+1:Nat))] (hk:=⟨ahY (by omega),trivial⟩) fun S=>ahJ ?_;have S:=S.jE 1;obtain⟨R,Y54⟩:=R.bZ S (ai7 1);show ∃i',_∧_;exact⟨((k+1),x28.depth),⟨by omega,hR.next lu qI (Jv (by simpa using hc38) (by rw[←Gp]; exact VK) (by have:=aiu hc47; rw[←hR.room]; omega)) (by rw[ah7 (by simpa using Ah)]),R,(Sx.On.step hMo Y54),S.sn⟩,by show _-_<_-_; omega⟩
 refine ail<|iJ _ _<|ahK fun _ PN=>adr S 2 [] [(2,.i 0),(3,.i 0)] fun S=>ahJ<|PN _ _<|aii ?_;have hq:=qx (s:=s.key) vT;rw[show s.key.ns=keys s.ns from rfl,ajU]at hq;refine Sx.xq S results64 ?_;rw[ah7 (by have:=aiu jV; omega)]at hq;exact⟨by rw[hq,hR.done (by have:=aiu hc19; omega)],S.E⟩
end
section
set_option maxHeartbeats 3200000
set_option maxRecDepth 100000
open Go.RowKit
variable{α:Type}{K:Nat}
theorem eF.eqP{w w':World}{a b:aA}(h:eF K w a)(h':eF K w' b):a.eqP b=decide (a.key=b.key):=YW h.nrm h'.nrm
theorem VN(c d:dA):(((c.r.toNat:Int)==d.r.toNat)&&(((c.g.toNat:Int)==d.g.toNat)&&(((c.b.toNat:Int)==d.b.toNat)&&((c.a.toNat:Int)==d.a.toNat))))=decide (c=d):=by
 rw[ai4];simp only[aiq,aiv,yj,aiz];exact OC
theorem adO(a b c d e f g h:Int)(w:World):(binOp .neq 23 (.agg #[.u a,.u b,.u c,.u d]) (.agg #[.u e,.u f,.u g,.u h])).run prog w = .ok (.bool (!((a==e)&&((b==f)&&((c==g)&&(d==h)))))) w:=by
 simp[go_sem];(repeat' split)<;>simp_all
theorem VO(c d:dA)(w:World):(binOp .neq 23 (.agg c.cells.toArray) (.agg d.cells.toArray)).run prog w = .ok (.bool (!decide (c=d))) w:=by
 rw[←VN]; exact adO ..
theorem VP{l m:List aA}{k:Nat}(hk:l.length≤k)(h:l.length=m.length)(hR:(keys l).take k=(keys m).take k):true=decide (keys l=keys m):=by
 rw[aiC (by simpa using hk),aiC (by simpa using (show m.length≤k by omega))]at hR;simp[hR]
theorem OH{l m:List aA}{k:Nat}(h1:k<l.length)(h2:k<m.length)(hR:(keys l).take k=(keys m).take k){x y:aA}(hx:l[k]=x)(hy:m[k]=y)(h:(!decide (x.key=y.key))=false):(keys l).take (k+1)=(keys m).take (k+1):=by
 rw[ajc (by simpa using h1),ajc (by simpa using h2),hR,BX h1 hx,BX h2 hy];simp at h;rw[h]
theorem aap{l m:List aA}{k:Nat}(h1:k<l.length)(h2:k<m.length){x y:aA}(hx:l[k]=x)(hy:m[k]=y)(h:(!decide (x.key=y.key))=true):false=decide (keys l=keys m):=by
 symm;rw[aji];intro e;have:=aic (·[k]?) e;simp only[keys,List.getElem?_map,List.getElem?_eq_getElem h1,List.getElem?_eq_getElem h2,hx,hy,aiY,ah8]at this;simp[this]at h
theorem aaq{s t:bC}(h:((((s.w) != t.w)||((s.h) != t.h))||(!decide (s.bg=t.bg))||((s.ns.length:Int) != (t.ns.length:Int)))=true):false=decide (s.key=t.key):=by
 symm;rw[aji];intro e;simp only[bC.key,iO.mk.injEq]at e;have hl:=aic List.length e.2.2.2;simp at hl;simp[e.1,e.2.1,e.2.2.1,hl]at h
theorem Gq{s t:bC}(h:((((s.w) != t.w)||((s.h) != t.h))||(!decide (s.bg=t.bg))||((s.ns.length:Int) != (t.ns.length:Int)))=false):s.ns.length=t.ns.length:=by
 simp at h; omega
theorem OI{s t:bC}{b:Bool}(h:((((s.w) != t.w)||((s.h) != t.h))||(!decide (s.bg=t.bg))||((s.ns.length:Int) != (t.ns.length:Int)))=false)(hb:b=decide (keys s.ns=keys t.ns)):b=decide (s.key=t.key):=by
 rw[hb];simp at h;simp[bC.key,h]
theorem FZ{w:World}{a b:aA}(h:eF K w a)(h':eF K w b):Calls prog 28 #[a.v,b.v] w fun e w'=>e = .returned (.bool (a.key=b.key))∧Ext w w':=by
 rw[←h.eqP h']; exact DT h h'
theorem y9{w:World}{s:bC}(h:gQ K w s)(hg:bW w) :
  Calls prog 24 #[s.v] w fun e w'=>e = .returned (.bool s.key.valid)∧Ext w w':=by
 skip;refine ahO func24 ntmps24 fun ac S=>ahK fun _ aY=>ahL S 1 s.cells fun ac u b2 E3 hb4 S=>adr S 1 [] [(2,.z)] fun S=>ahJ<|aY _ _<|ahK fun _ dw=>adr S 1 [.mem 0 0] [(6,s.v)] fun S=>ahS S 7 (Jw (h.below S.E) (hg.below S.E)) fun ac u E6 S=>adr S 5 [] [(3,.i s.key.chk.1)] fun S=>ahJ<|dw _ _<|ahK fun _ iL=>adr S 3 [] [(2,.bool ((s.key.chk.1)==0))] fun S=>ahJ<|iL _ _<|ahM S results24 ?_;exact⟨rfl,S.E⟩
theorem IK{w:World}{s t:bC}(h:gQ K w s)(h':gQ K w t) :
  Calls prog 26 #[s.v,t.v] w fun e w'=>e = .returned (.bool (s.key=t.key))∧Ext w w':=by
 have hmax:s.ns.length≤9223372036854775807:=h.2.2.1.len;refine ahO func26 ntmps26 (fun ac S=>?_);obtain⟨a,cap,es⟩:∃a c,s.s = .slice a s.ns.length c:=⟨_,_,rfl⟩;have hr:=h.2.2.1;rw[es]at hr;obtain⟨d,cap',et⟩:∃a c,t.s = .slice a t.ns.length c:=⟨_,_,rfl⟩;have hr':=h'.2.2.1;rw[et]at hr';refine ahK fun _ aY=>ahL S 2 s.cells fun ac u b2 E3 hb4 S=>ahL S 3 t.cells fun ac u b5 E6 hb7 S=>adr S 1 [] [(4,.z)] fun S=>ahJ<|aY _ _<|ah2 fun _ dR=>ahK fun _ iD=>adr S 28 [.mem 1 0,.mem 0 0,.mem 1 1,.mem 0 1,.mem 1 2,.mem 0 2,.cmp .neq 23 (.tmp 20) (.tmp 22) (.agg #[.u (s.bg.r.toNat:Int),.u (s.bg.g.toNat:Int),.u (s.bg.b.toNat:Int),.u (s.bg.a.toNat:Int)]) (.agg #[.u (t.bg.r.toNat:Int),.u (t.bg.g.toNat:Int),.u (t.bg.b.toNat:Int),.u (t.bg.a.toNat:Int)]) (.bool (!decide (s.bg=t.bg))),.mem 1 6,.re 27 s.s (.slice a s.ns.length cap),.mem 0 6,.re 30 t.s (.slice d t.ns.length cap')] [(33,.bool (((((s.w) != t.w)||((s.h) != t.h))||(!decide (s.bg=t.bg)))||(((s.ns.length:Int)) != (t.ns.length:Int))))] (hk:=⟨(Sx.fQ (fun _=>VO s.bg t.bg _) (by kernel_rfl)),es,et,trivial⟩) fun S=>ahJ (iD _ _ ?_);refine ahN S (fun dG=>?_) (fun dG=>?_)
 ·refine ahK fun _ dO=>adr S 1 [] [(4,.z)] fun S=>ahJ<|dO _ _<|ahM S results26 ?_;exact⟨aH (aaq dG),S.E⟩
 refine ah4<|dR _ _<|ah2 fun _ fD=>ahK fun _ iI=>adr S 4 [.mem 1 6,.re 35 s.s (.slice a s.ns.length cap)] [(36,.i s.ns.length),(37,.i 0)] (hk:=⟨es,trivial⟩) fun S=>ahJ<|iI _ _<|ah5 ?_;refine aiM (ι:=Nat) (fun p a' w'=>p≤s.ns.length∧((keys s.ns).take p=(keys t.ns).take p)∧Sx.St w a' w' 53 [(0,s.v),(1,t.v),(2,.q b2 0),(3,.q b5 0),(4,.z),(36,.i s.ns.length),(37,.i p)] [(b5,t.cells),(b2,s.cells)] []) (fun p=>s.ns.length-p) (0) ⟨aij _,rfl,S.sn⟩ ?_;rintro k ac u hI;try dsimp only at hI
 obtain⟨hk,hR,S⟩:=hI;refine ahK fun _ gU=>adr S 1 [] [(38,.bool ((k:Int)<(s.ns.length:Int)))] fun S=>ahJ<|gU _ _<|ah2 (fun _ iJ=>?_);refine ahN S (fun hc16=>?_) (fun hc16=>?_)
 ·refine ah4<|iJ _ _<|ah2 fun _ iq=>ah5<|ahK fun _ jy=>adr S 2 [] [(5,.i k)] fun S=>ahJ<|jy _ _<|ah2 (fun _ kX=>?_);have VQ:k<s.ns.length:=by have:=ain hc16; omega
  obtain⟨b21,o22,rfl,x27,hx25,abQ,af2⟩:=aiy hr (fun _=>rfl) (k) VQ;have S:=S.view0 abQ af2;have VR:k<t.ns.length:=by have:=Gq dG; have:=ain hc16; omega
  obtain⟨b29,o30,rfl,y35,abR,TL,UY⟩:=aiy hr' (fun _=>rfl) (k) VR;have S:=S.view0 TL UY;refine ahW S 12 [.mem 1 6,.re 41 s.s (.slice (some ⟨b21,o22,none⟩) s.ns.length cap),.idx k s.ns.length,.mem 3 0,.mem 0 6,.re 46 t.s (.slice (some ⟨b29,o30,none⟩) t.ns.length cap'),.idx k t.ns.length,.mem 2 0] [(_,_,true,.bool (x27.key=y35.key))] [(51,.bool (!(decide (x27.key=y35.key))))] ⟨fun u hC g=>FZ ((h.2.2.2 _ (hx25▸aiD VQ)).below (Ext.trans' S.E hC)) ((h'.2.2.2 _ (abR▸aiD VR)).below (Ext.trans' S.E hC)),trivial⟩ (hk:=⟨es,VQ,et,VR,trivial⟩) fun ac u Aa S=>ahJ (kX _ _ ?_);refine ahN S (fun zI=>?_) (fun zI=>?_)
  ·refine ahK fun _ lq=>adr S 1 [] [(4,.z)] fun S=>ahJ<|lq _ _<|ahM S results26 ?_;exact⟨aH (OI dG (aap VQ VR hx25 abR zI)),S.E⟩
  refine ah4<|iq _ _<|aia<|adr S 2 [.re 52 (.i (IntKind.i64.wrap ((k:Int)+1))) (.i (k+1:Nat))] [(37,.i (k+1:Nat))] (hk:=⟨ahY (by omega),trivial⟩) fun S=>ahJ ?_;show ∃i',_∧_;exact⟨(k+1),⟨by omega,(OH VQ VR hR hx25 abR zI),S.sn⟩,by show _-_<_-_; omega⟩
 refine ail<|fD _ _<|ahK fun _ wJ=>adr S 1 [] [(4,.bool true)] fun S=>ahJ<|wJ _ _<|ahM S results26 ?_;exact⟨aH (OI dG (VP (by have:=aiu hc16; omega) (Gq dG) hR)),S.E⟩
end
section
open Go.RowKit
variable{α:Type}{K:Nat}
theorem gY{f:α→Value}{w:World}{v:Value}{l:List α}(h:aN 1 (fun x=>[f x]) w v l):bV f w v l:=by
 obtain⟨a,cap,hv,hm,h⟩:=h;refine⟨a,cap,hv,hm,?_⟩;rcases h with h | ⟨b,o,ha,hlt,hl,hc⟩
 ·exact .inl h
 exact .inr ⟨b,o,ha,hlt,hl,fun i hi=>by have:=hc i hi 0 (by omega); simpa using this⟩
def bn.lim(t:bn):Prop:=t.fit 1000000
end
section
open Go.RowKit
variable{α:Type}{K:Nat}
def au.lim(p:au):Prop:=p.stops.length≤10000000∧p.img.l.length≤10000000∧p.t.lim
def aA.lim(n:aA):Prop:=n.t.lim∧n.clip.length≤10000000∧n.path.length≤10000000∧n.fill.length≤10000000∧(∀p∈n.fill,p.lim)∧n.style.dash.length≤10000000∧n.stroke.length≤10000000∧(∀p∈n.stroke,p.lim)∧n.img.l.length≤10000000
end
section
open Go.RowKit
variable{α:Type}{K:Nat}
abbrev OwnB (base:Nat)(w:World)(v:Value)(l:List UInt8):Prop:=w.ownsRow base 5 1 v l.length (l.map dQ)
theorem Gs(l:List UInt8):l.flatMap (fun n:UInt8=>[dQ n])=l.map dQ:=by induction l<;>simp_all
theorem rowB{base:Nat}{w:World}{v:Value}{l:List UInt8}(h:OwnB base w v l):aN 1 (fun n:UInt8=>[dQ n]) w v l:=Sx.On.self (Sx.Jd (f:=fun n:UInt8=>[dQ n]) (L:=l) (fun _=>rfl) h rfl (Gs l).symm)
theorem jh{base:Nat}{w:World}{v:Value}{l:List UInt8}(h:OwnB base w v l):dS w 1 v l.length (l.map dQ):=by
 have:=Sx.Ve (rowB h) (fun _=>rfl) (fun _=>rfl);rwa [Gs]at this
theorem pX{base:Nat}{w:World}{v:Value}{l:List UInt8}(h:OwnB base w v l):bH w v l:=gY (rowB h)
theorem wrap_u64{n:Nat}(h:n<18446744073709551616):Value.int .u64 (IntKind.u64.wrap (n:Int)) = .int .u64 (n:Int):=by
 congr 1;rw[ai6];omega
end
end Go.Proofs.YtapmgonflgahbaaGreatDoor
