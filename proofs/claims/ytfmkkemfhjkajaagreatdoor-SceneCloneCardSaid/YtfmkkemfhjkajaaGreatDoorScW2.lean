/- Package scene: questions about places; equality. -/
import Derived.Test.YtfmkkemfhjkajaaGreatDoorPk37
set_option maxHeartbeats 3200000
set_option maxRecDepth 100000
namespace Go.Proofs.YtfmkkemfhjkajaaGreatDoor
open _root_.Go.Proofs.Tryz
open Go.RowKit
variable{α:Type}{K:Nat}
set_option linter.unusedVariables false
noncomputable def aN.index(s:aN)(id:Int):Int:=if s.valid=true then jB s.ns id else -1
noncomputable def aN.has(s:aN)(i:Int):Bool:=(decide (0≤i)&&decide (i<(s.ns.length:Int)))&&s.valid
noncomputable def aN.endOf(s:aN)(i:Int):Int:=if s.has i=true then (dU s.ns i.toNat:Int)else -1
noncomputable def aN.NP(s:aN)(i:Int):Int:=if s.has i=true then sD (jE s.ns) i.toNat else -1
theorem LX{s:aK}{i:Int}(h:s.key.has i=true):s.key.valid=true∧∃k:Nat,i=(k:Int)∧k<s.ns.length:=by
 unfold aN.has at h;simp only[alr,alz,aK.key,al6]at h;exact⟨h.2,i.toNat,by omega,by omega⟩
theorem abg{s:aN}(h:s.valid=true):VL s.ns:=(aN.qX.1 h).2.2
theorem uO{s:aK}(h:s.key.valid=true){i:Nat}(hi:i<s.ns.length):0≤s.ns[i].depth∧s.ns[i].depth<8:=(abg h).depth s.ns[i].key (alL.2 ⟨_,aly hi,rfl⟩)
theorem fK.eqP{w w':World}{a b:aj}(h:fK K w a)(h':fK K w' b):a.eqP b=decide (a.key=b.key):=aco h.nrm h'.nrm
theorem abh(c d:dF):(((c.r.toNat:Int)==d.r.toNat)&&(((c.g.toNat:Int)==d.g.toNat)&&(((c.b.toNat:Int)==d.b.toNat)&&((c.a.toNat:Int)==d.a.toNat))))=decide (c=d):=by
 rw[al4];simp only[alr,alu,Lp,alz];exact Vz
theorem aeL(c d:dF)(w:World):(binOp .eql 23 (.agg c.cells.toArray) (.agg d.cells.toArray)).run prog w = .ok (.bool (c=d)) w:=by
 rw[←abh]; exact Ji ..
theorem agI(a b c d e f g h:Int)(w:World):(binOp .neq 23 (.agg #[.int .u8 a,.int .u8 b,.int .u8 c,.int .u8 d]) (.agg #[.int .u8 e,.int .u8 f,.int .u8 g,.int .u8 h])).run prog w = .ok (.bool (!((a==e)&&((b==f)&&((c==g)&&(d==h)))))) w:=by
 simp[go_sem];(repeat' split)<;>simp_all
theorem TY(c d:dF)(w:World):(binOp .neq 23 (.agg c.cells.toArray) (.agg d.cells.toArray)).run prog w = .ok (.bool (!decide (c=d))) w:=by
 rw[←abh]; exact agI ..
theorem agH{l m:List aj}(h:l.length≠m.length):false=decide (keys l=keys m):=by
 have:keys l≠keys m:=fun e=>h (by simpa using alb List.length e);simp[this]
theorem Un{l m:List aj}{k:Nat}(hk:l.length≤k)(h:l.length=m.length)(hR:(keys l).take k=(keys m).take k):true=decide (keys l=keys m):=by
 rw[alJ (by simpa using hk),alJ (by simpa using (show m.length≤k by omega))]at hR;simp[hR]
theorem MJ{l m:List aj}{k:Nat}(h1:k<l.length)(h2:k<m.length)(hR:(keys l).take k=(keys m).take k){x y:aj}(hx:l[k]=x)(hy:m[k]=y)(h:(!decide (x.key=y.key))=false):(keys l).take (k+1)=(keys m).take (k+1):=by
 rw[alY (by simpa using h1),alY (by simpa using h2),hR,Cj h1 hx,Cj h2 hy];simp at h;rw[h]
theorem abf{l m:List aj}{k:Nat}(h1:k<l.length)(h2:k<m.length){x y:aj}(hx:l[k]=x)(hy:m[k]=y)(h:(!decide (x.key=y.key))=true):false=decide (keys l=keys m):=by
 symm;rw[amc];intro e;have:=alb (·[k]?) e;simp only[keys,List.getElem?_map,List.getElem?_eq_getElem h1,List.getElem?_eq_getElem h2,hx,hy,alQ,ald]at this;simp[this]at h
theorem adk{s t:aK}(h:((((s.w) != t.w)||((s.h) != t.h))||(!decide (s.bg=t.bg))||((s.ns.length:Int) != (t.ns.length:Int)))=true):false=decide (s.key=t.key):=by
 symm;rw[amc];intro e;simp only[aK.key,aN.mk.injEq]at e;have hl:=alb List.length e.2.2.2;simp at hl;simp[e.1,e.2.1,e.2.2.1,hl]at h
theorem MI{s t:aK}(h:((((s.w) != t.w)||((s.h) != t.h))||(!decide (s.bg=t.bg))||((s.ns.length:Int) != (t.ns.length:Int)))=false):s.ns.length=t.ns.length:=by
 simp at h; omega
theorem VW{s t:aK}{b:Bool}(h:((((s.w) != t.w)||((s.h) != t.h))||(!decide (s.bg=t.bg))||((s.ns.length:Int) != (t.ns.length:Int)))=false)(hb:b=decide (keys s.ns=keys t.ns)):b=decide (s.key=t.key):=by
 rw[hb];simp at h;simp[aK.key,h]
theorem VE{w:World}{a b:aj}(h:fK K w a)(h':fK K w b):Calls prog 56 #[a.v,b.v] w fun e w'=>e = .returned (.bool (a.key=b.key))∧Ext w w':=by
 rw[←h.eqP h']; exact IL h h'
theorem pV{w:World}{s:aK}(h:bU K w s)(hg:jL w) :
  Calls prog 22 #[s.v] w fun e w'=>e = .returned (.bool s.key.valid)∧Ext w w':=by
 skip;refine akN func22 ntmps22 fun ac S=>akJ fun _ aS=>akK S 1 s.cells fun ac u b2 E3 hb4 S=>adr S 1 [] [(2,.bool false)] fun S=>akI<|aS _ _<|akJ fun _ dB=>adr S 1 [.mem 0 0] [(6,s.v)] fun S=>akQ S 7 (wV (h.below S.E) (hg.below S.E)) fun ac u E6 S=>adr S 5 [] [(3,.i s.key.chk.1)] fun S=>akI<|dB _ _<|akJ fun _ kJ=>adr S 3 [] [(2,.bool ((s.key.chk.1)==0))] fun S=>akI<|kJ _ _<|akM S results22 ?_;exact⟨rfl,S.E⟩
theorem CG{w:World}{s:aK}(h:bU K w s)(hg:jL w)(i:Int) :
  Calls prog 57 #[s.v,.i i] w fun e w'=>e = .returned (.bool (s.key.has i))∧Ext w w':=by
 skip;refine akN func57 ntmps57 fun ac S=>akJ fun _ aS=>akK S 2 s.cells fun ac u b2 E3 hb4 S=>adr S 1 [] [(4,.bool false)] fun S=>akI<|aS _ _<|akJ fun _ dB=>akX S 14 [.mem 0 6,.mem 0 0] [(_,_,((decide (0≤i))&&(decide (i<(s.ns.length:Int)))),.bool s.key.valid)] [(4,.bool (((decide (0≤i))&&(decide (i<(s.ns.length:Int))))&&s.key.valid))] ⟨fun u hC g=>pV (h.below (Ext.trans' S.E hC)) (hg.below (Ext.trans' S.E hC)),trivial⟩ fun ac u E6 S=>akI<|dB _ _<|akM S results57 ?_;exact⟨by unfold aN.has; rw[show s.key.ns.length=s.ns.length from al6 ..],S.E⟩
theorem NT{w:World}{s:aK}(h:bU K w s)(hg:jL w)(id:Int) :
  Calls prog 25 #[s.v,.i id] w fun e w'=>e = .returned (.i (s.key.index id))∧Ext w w':=by
 skip;refine akN func25 ntmps25 fun ac S=>akJ fun _ aS=>akK S 2 s.cells fun ac u b2 E3 hb4 S=>adr S 1 [] [(4,.i 0)] fun S=>akI<|aS _ _<|ak6 fun _ dB=>akJ fun _ je=>adr S 1 [.mem 0 0] [(5,s.v)] fun S=>akQ S 6 (pV (h.below S.E) (hg.below S.E)) fun ac u E7 S=>adr S 1 [] [(7,.bool (!s.key.valid))] fun S=>akI (je _ _ ?_);refine akL S (fun hc8=>?_) (fun hc8=>?_)
 ·refine akJ fun _ iq=>adr S 1 [] [(4,.i (-1))] fun S=>akI<|iq _ _<|akM S results25 ?_;exact⟨by unfold aN.index; rw[ak9 (by simpa using hc8)],S.E⟩
 refine ak7<|dB _ _<|akJ (fun _ fE=>?_);have hv:s.key.valid=true:=by simpa using hc8
 refine adr S 3 [.mem 0 6] [(9,s.s),(10,.i id)] fun S=>akQ S 11 (zS (id:=id) (h.2.2.1.below S.E)) fun ac u wM S=>adr S 1 [] [(4,.i (jB (keys s.ns) id))] fun S=>akI<|fE _ _<|akM S results25 ?_;exact⟨by unfold aN.index; rw[ale hv]; rfl,S.E⟩
theorem NR{w:World}{s:aK}(h:bU K w s)(hg:jL w)(i:Int) :
  Calls prog 24 #[s.v,.i i] w fun e w'=>e = .returned (.i (s.key.endOf i))∧Ext w w':=by
 skip;refine akN func24 ntmps24 fun ac S=>akJ fun _ aS=>akK S 2 s.cells fun ac u b2 E3 hb4 S=>adr S 1 [] [(4,.i 0)] fun S=>akI<|aS _ _<|ak6 fun _ dB=>akJ fun _ je=>adr S 2 [.mem 0 0] [(5,s.v),(6,.i i)] fun S=>akQ S 7 (CG (h.below S.E) (hg.below S.E) i) fun ac u E7 S=>adr S 1 [] [(8,.bool (!(s.key.has i)))] fun S=>akI (je _ _ ?_);refine akL S (fun hc8=>?_) (fun hc8=>?_)
 ·refine akJ fun _ iq=>adr S 1 [] [(4,.i (-1))] fun S=>akI<|iq _ _<|akM S results24 ?_;exact⟨by unfold aN.endOf; rw[ak9 (by simpa using hc8)],S.E⟩
 refine ak7<|dB _ _<|akJ (fun _ fE=>?_);have hh:s.key.has i=true:=by simpa using hc8
 obtain⟨hv,k,rfl,hk⟩:=LX hh;refine adr S 3 [.mem 0 6] [(10,s.s),(11,.i k)] fun S=>akQ S 12 (yC (h.2.2.1.below S.E) hk rfl rfl) fun ac u wM S=>adr S 1 [] [(4,.i (dU (keys s.ns) k:Nat))] fun S=>akI<|fE _ _<|akM S results24 ?_;exact⟨by unfold aN.endOf; rw[ale hh]; rfl,S.E⟩
theorem NS{w:World}{s:aK}(h:bU K w s)(hg:jL w)(i:Int) :
  Calls prog 36 #[s.v,.i i] w fun e w'=>e = .returned (.i (s.key.NP i))∧Ext w w':=by
 skip;refine akN func36 ntmps36 fun ac S=>akJ fun _ aS=>akK S 2 s.cells fun ac u b2 E3 hb4 S=>adr S 1 [] [(4,.i 0)] fun S=>akI<|aS _ _<|ak6 fun _ dB=>akJ fun _ je=>adr S 2 [.mem 0 0] [(5,s.v),(6,.i i)] fun S=>akQ S 7 (CG (h.below S.E) (hg.below S.E) i) fun ac u E7 S=>adr S 1 [] [(8,.bool (!(s.key.has i)))] fun S=>akI (je _ _ ?_);refine akL S (fun hc8=>?_) (fun hc8=>?_)
 ·refine akJ fun _ iq=>adr S 1 [] [(4,.i (-1))] fun S=>akI<|iq _ _<|akM S results36 ?_;exact⟨by unfold aN.NP; rw[ak9 (by simpa using hc8)],S.E⟩
 refine ak7<|dB _ _<|akJ (fun _ fE=>?_);have hh:s.key.has i=true:=by simpa using hc8
 obtain⟨hv,k,rfl,hk⟩:=LX hh;refine adr S 3 [.mem 0 6] [(10,s.s),(11,.i k)] fun S=>akQ S 12 (LH (h.2.2.1.below S.E) hk (uO hv hk) rfl) fun ac u wM S=>adr S 1 [] [(4,.i (sD (jE (keys s.ns)) k))] fun S=>akI<|fE _ _<|akM S results36 ?_;exact⟨by unfold aN.NP; rw[ale hh]; rfl,S.E⟩
theorem PY{w:World}{s t:aK}(h:bU K w s)(h':bU K w t) :
  Calls prog 23 #[s.v,t.v] w fun e w'=>e = .returned (.bool (s.key=t.key))∧Ext w w':=by
 have hmax:s.ns.length≤9223372036854775807:=h.2.2.1.len;refine akN func23 ntmps23 (fun ac S=>?_);obtain⟨a,cap,es⟩:∃a c,s.s = .slice a s.ns.length c:=⟨_,_,rfl⟩;have hr:=h.2.2.1;rw[es]at hr;obtain⟨d,cap',et⟩:∃a c,t.s = .slice a t.ns.length c:=⟨_,_,rfl⟩;have hr':=h'.2.2.1;rw[et]at hr';refine akJ fun _ aS=>akK S 2 s.cells fun ac u b2 E3 hb4 S=>akK S 3 t.cells fun ac u b5 E6 hb7 S=>adr S 1 [] [(4,.bool false)] fun S=>akI<|aS _ _<|ak6 fun _ dP=>akJ fun _ iq=>adr S 28 [.mem 1 0,.mem 0 0,.mem 1 1,.mem 0 1,.mem 1 2,.mem 0 2,.cmp .neq 23 (.tmp 20) (.tmp 22) (.agg #[.int .u8 (s.bg.r.toNat:Int),.int .u8 (s.bg.g.toNat:Int),.int .u8 (s.bg.b.toNat:Int),.int .u8 (s.bg.a.toNat:Int)]) (.agg #[.int .u8 (t.bg.r.toNat:Int),.int .u8 (t.bg.g.toNat:Int),.int .u8 (t.bg.b.toNat:Int),.int .u8 (t.bg.a.toNat:Int)]) (.bool (!decide (s.bg=t.bg))),.mem 1 6,.re 27 s.s (.slice a s.ns.length cap),.mem 0 6,.re 30 t.s (.slice d t.ns.length cap')] [(33,.bool (((((s.w) != t.w)||((s.h) != t.h))||(!decide (s.bg=t.bg)))||(((s.ns.length:Int)) != (t.ns.length:Int))))] (hk:=⟨(ak2 (fun _=>TY s.bg t.bg _) (by kernel_rfl)),es,et,trivial⟩) fun S=>akI (iq _ _ ?_);refine akL S (fun bV=>?_) (fun bV=>?_)
 ·refine akJ fun _ dn=>adr S 1 [] [(4,.bool false)] fun S=>akI<|dn _ _<|akM S results23 ?_;exact⟨aB (adk bV),S.E⟩
 refine ak7<|dP _ _<|ak6 fun _ cO=>akJ fun _ gu=>adr S 4 [.mem 1 6,.re 35 s.s (.slice a s.ns.length cap)] [(36,.i s.ns.length),(37,.i 0)] (hk:=⟨es,trivial⟩) fun S=>akI<|gu _ _<|ak8 ?_;refine alC (ι:=Nat) (fun p a' w'=>p≤s.ns.length∧((keys s.ns).take p=(keys t.ns).take p)∧Sx.St w a' w' 53 [(0,s.v),(1,t.v),(2,.pointer (some ⟨b2,0,none⟩)),(3,.pointer (some ⟨b5,0,none⟩)),(4,.bool false),(36,.i s.ns.length),(37,.i p)] [(b5,t.cells),(b2,s.cells)] []) (fun p=>s.ns.length-p) (0) ⟨alg _,rfl,S.sn⟩ ?_;rintro k ac u hI;try dsimp only at hI
 obtain⟨hk,hR,S⟩:=hI;refine akJ fun _ fH=>adr S 1 [] [(38,.bool ((k:Int)<(s.ns.length:Int)))] fun S=>akI<|fH _ _<|ak6 (fun _ fJ=>?_);refine akL S (fun hc16=>?_) (fun hc16=>?_)
 ·refine ak7<|fJ _ _<|ak6 fun _ gJ=>ak8<|akJ fun _ jh=>adr S 2 [] [(5,.i k)] fun S=>akI<|jh _ _<|ak6 (fun _ jf=>?_);have I4:k<s.ns.length:=by have:=alj hc16; omega
  obtain⟨YB,o22,rfl,x27,hx25,Zu,aeZ⟩:=als hr (fun _=>rfl) (k) I4;have S:=S.view0 Zu aeZ;have Qh:k<t.ns.length:=by have:=MI bV; have:=alj hc16; omega
  obtain⟨b29,o30,rfl,y35,Yh,Wy,SE⟩:=als hr' (fun _=>rfl) (k) Qh;have S:=S.view0 Wy SE;refine akU S 12 [.mem 1 6,.re 41 s.s (.slice (some ⟨YB,o22,none⟩) s.ns.length cap),.idx k s.ns.length,.mem 3 0,.mem 0 6,.re 46 t.s (.slice (some ⟨b29,o30,none⟩) t.ns.length cap'),.idx k t.ns.length,.mem 2 0] [(_,_,true,.bool (x27.key=y35.key))] [(51,.bool (!(decide (x27.key=y35.key))))] ⟨fun u hC g=>VE ((h.2.2.2 _ (hx25▸aly I4)).below (Ext.trans' S.E hC)) ((h'.2.2.2 _ (Yh▸aly Qh)).below (Ext.trans' S.E hC)),trivial⟩ (hk:=⟨es,I4,et,Qh,trivial⟩) fun ac u zk S=>akI (jf _ _ ?_);refine akL S (fun mD=>?_) (fun mD=>?_)
  ·refine akJ fun _ iW=>adr S 1 [] [(4,.bool false)] fun S=>akI<|iW _ _<|akM S results23 ?_;exact⟨aB (VW bV (abf I4 Qh hx25 Yh mD)),S.E⟩
  refine ak7<|gJ _ _<|alc<|adr S 2 [.re 52 (.i (IntKind.i64.wrap ((k:Int)+1))) (.i (k+1:Nat))] [(37,.i (k+1:Nat))] (hk:=⟨akV (by omega),trivial⟩) fun S=>akI ?_;show ∃i',_∧_;exact⟨(k+1),⟨by omega,(MJ I4 Qh hR hx25 Yh mD),S.sn⟩,by show _-_<_-_; omega⟩
 refine alk<|cO _ _<|akJ fun _ qB=>adr S 1 [] [(4,.bool true)] fun S=>akI<|qB _ _<|akM S results23 ?_;exact⟨aB (VW bV (Un (by have:=alo hc16; omega) (MI bV) hR)),S.E⟩
end Go.Proofs.YtfmkkemfhjkajaaGreatDoor
