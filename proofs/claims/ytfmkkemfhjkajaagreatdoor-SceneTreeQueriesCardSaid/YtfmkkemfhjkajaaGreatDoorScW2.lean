/- Package scene: questions about places; equality. -/
import Derived.Test.YtfmkkemfhjkajaaGreatDoorScW
set_option maxHeartbeats 3200000
set_option maxRecDepth 100000
namespace Go.Proofs.YtfmkkemfhjkajaaGreatDoor
open Go.RowKit
variable{α:Type}{K:Nat}
set_option linter.unusedVariables false
noncomputable def aP.index(s:aP)(id:Int):Int:=if s.valid=true then iY s.ns id else -1
noncomputable def aP.has(s:aP)(i:Int):Bool:=(decide (0≤i)&&decide (i<(s.ns.length:Int)))&&s.valid
noncomputable def aP.endOf(s:aP)(i:Int):Int:=if s.has i=true then (eu s.ns i.toNat:Int)else -1
noncomputable def aP.sJ(s:aP)(i:Int):Int:=if s.has i=true then iL (bP s.ns) i.toNat else -1
theorem xk{s:aS}{i:Int}(h:s.key.has i=true):s.key.valid=true∧∃k:Nat,i=(k:Int)∧k<s.ns.length:=by
 unfold aP.has at h
 simp only[Bool.and_eq_true,decide_eq_true_eq,aS.key,List.length_map]at h
 exact⟨h.2,i.toNat,by omega,by omega⟩
theorem Gy{s:aP}(h:s.valid=true):VL s.ns:=(aP.oL.1 h).2.2
theorem lD{s:aS}(h:s.key.valid=true){i:Nat}(hi:i<s.ns.length):0≤s.ns[i].depth∧s.ns[i].depth<8:=(Gy h).depth s.ns[i].key (List.mem_map.2 ⟨_,List.getElem_mem hi,rfl⟩)
theorem fJ.eqP{w w':World}{a b:aj}(h:fJ K w a)(h':fJ K w' b):a.eqP b=decide (a.key=b.key):=aa5 h.nrm h'.nrm
theorem ZU(c d:dI):(((c.r.toNat:Int)==d.r.toNat)&&(((c.g.toNat:Int)==d.g.toNat)&&(((c.b.toNat:Int)==d.b.toNat)&&((c.a.toNat:Int)==d.a.toNat))))=decide (c=d):=by
 rw[Bool.eq_iff_iff]
 simp only[Bool.and_eq_true,beq_iff_eq,KC,decide_eq_true_eq]
 exact Uh
theorem adG(c d:dI)(w:World):(binOp .eql 23 (.agg c.cells.toArray) (.agg d.cells.toArray)).run Tryz.prog w = .ok (.bool (decide (c=d))) w:=by
 rw[←ZU]; exact IQ ..
theorem afs(a b c d e f g h:Int)(w:World):(binOp .neq 23 (.agg #[.int .u8 a,.int .u8 b,.int .u8 c,.int .u8 d]) (.agg #[.int .u8 e,.int .u8 f,.int .u8 g,.int .u8 h])).run Tryz.prog w = .ok (.bool (!((a==e)&&((b==f)&&((c==g)&&(d==h)))))) w:=by
 simp[go_sem]
 (repeat' split)<;>simp_all
theorem ZQ(c d:dI)(w:World):(binOp .neq 23 (.agg c.cells.toArray) (.agg d.cells.toArray)).run Tryz.prog w = .ok (.bool (!decide (c=d))) w:=by
 rw[←ZU]; exact afs ..
theorem ZR{l m:List aj}{k:Nat}(hk:l.length≤k)(h:l.length=m.length)(hR:(keys l).take k=(keys m).take k):true=decide (keys l=keys m):=by
 rw[List.take_of_length_le (by simpa using hk),List.take_of_length_le (by simpa using (show m.length≤k by omega))]at hR
 simp[hR]
theorem UE{l m:List aj}{k:Nat}(h1:k<l.length)(h2:k<m.length)(hR:(keys l).take k=(keys m).take k){x y:aj}(hx:l[k]=x)(hy:m[k]=y)(h:(!decide (x.key=y.key))=false):(keys l).take (k+1)=(keys m).take (k+1):=by
 rw[List.take_succ_eq_append_getElem (by simpa using h1),List.take_succ_eq_append_getElem (by simpa using h2),hR,Cb h1 hx,Cb h2 hy]
 simp at h
 rw[h]
theorem ab3{l m:List aj}{k:Nat}(h1:k<l.length)(h2:k<m.length){x y:aj}(hx:l[k]=x)(hy:m[k]=y)(h:(!decide (x.key=y.key))=true):false=decide (keys l=keys m):=by
 symm
 rw[decide_eq_false_iff_not]
 intro e
 have:=congrArg (·[k]?) e
 simp only[keys,List.getElem?_map,List.getElem?_eq_getElem h1,List.getElem?_eq_getElem h2,hx,hy,Option.map_some,Option.some.injEq]at this
 simp[this]at h
theorem ab2{s t:aS}(h:((((s.w) != t.w)||((s.h) != t.h))||(!decide (s.bg=t.bg))||(((s.ns.length:Nat):Int) != ((t.ns.length:Nat):Int)))=true):false=decide (s.key=t.key):=by
 symm
 rw[decide_eq_false_iff_not]
 intro e
 simp only[aS.key,aP.mk.injEq]at e
 have hl:=congrArg List.length e.2.2.2
 simp at hl
 simp[e.1,e.2.1,e.2.2.1,hl]at h
theorem Lh{s t:aS}(h:((((s.w) != t.w)||((s.h) != t.h))||(!decide (s.bg=t.bg))||(((s.ns.length:Nat):Int) != ((t.ns.length:Nat):Int)))=false):s.ns.length=t.ns.length:=by
 simp at h; omega
theorem UD{s t:aS}{b:Bool}(h:((((s.w) != t.w)||((s.h) != t.h))||(!decide (s.bg=t.bg))||(((s.ns.length:Nat):Int) != ((t.ns.length:Nat):Int)))=false)(hb:b=decide (keys s.ns=keys t.ns)):b=decide (s.key=t.key):=by
 rw[hb]
 simp at h
 simp[aS.key,h]
theorem Uk{w:World}{a b:aj}(h:fJ K w a)(h':fJ K w b):Calls Tryz.prog 56 #[a.v,b.v] w fun e w'=>e = .returned (.bool (decide (a.key=b.key)))∧Ext w w':=by
 rw[←h.eqP h']; exact Ik h h'
theorem mO{w:World}{s:aS}(h:bW K w s)(hg:jE w) :
  Calls Tryz.prog 22 #[s.v] w fun e w'=>e = .returned (.bool s.key.valid)∧Ext w w':=by
 skip
 refine aiK Tryz.func22 Tryz.ntmps22 fun ac S=>aiG fun _ aU=>aiJ S 1 s.cells fun ac u b2 E3 hb4 S=>adr S 1 [] [(2,.bool false)] fun ac S=>aiF<|aU _ _<|aiG fun _ bV=>adr S 1 [.mem 0 0] [(6,s.v)] fun ac S=>aiM S 7 (sN (h.below S.E) (hg.below S.E)) fun ac u E6 S=>adr S 5 [] [(3,.int .i64 s.key.chk.1)] fun ac S=>aiF<|bV _ _<|aiG fun _ kC=>adr S 3 [] [(2,.bool ((s.key.chk.1)==0))] fun ac S=>aiF<|kC _ _<|Vp.rt ?_
 refine aiH S Tryz.results22 ?_
 exact⟨rfl,S.E⟩
theorem xY{w:World}{s:aS}(h:bW K w s)(hg:jE w)(i:Int) :
  Calls Tryz.prog 57 #[s.v,.int .i64 i] w fun e w'=>e = .returned (.bool (s.key.has i))∧Ext w w':=by
 skip
 refine aiK Tryz.func57 Tryz.ntmps57 fun ac S=>aiG fun _ aU=>aiJ S 2 s.cells fun ac u b2 E3 hb4 S=>adr S 1 [] [(4,.bool false)] fun ac S=>aiF<|aU _ _<|aiG fun _ bV=>aiT S 14 [.mem 0 6,.mem 0 0] [(_,_,((decide (0≤i))&&(decide (i<((s.ns.length:Nat):Int)))),.bool s.key.valid)] [(4,.bool (((decide (0≤i))&&(decide (i<((s.ns.length:Nat):Int))))&&s.key.valid))] ⟨fun u hC g=>mO (h.below (Ext.trans' S.E hC)) (hg.below (Ext.trans' S.E hC)),trivial⟩ fun ac u E6 S=>aiF<|bV _ _<|Vp.rt ?_
 refine aiH S Tryz.results57 ?_
 exact⟨by unfold aP.has; rw[show s.key.ns.length=s.ns.length from List.length_map ..],S.E⟩
theorem CJ{w:World}{s:aS}(h:bW K w s)(hg:jE w)(id:Int) :
  Calls Tryz.prog 25 #[s.v,.int .i64 id] w fun e w'=>e = .returned (.int .i64 (s.key.index id))∧Ext w w':=by
 skip
 refine aiK Tryz.func25 Tryz.ntmps25 fun ac S=>aiG fun _ aU=>aiJ S 2 s.cells fun ac u b2 E3 hb4 S=>adr S 1 [] [(4,.int .i64 0)] fun ac S=>aiF<|aU _ _<|wp_seq_k fun _ bV=>aiG fun _ iK=>adr S 1 [.mem 0 0] [(5,s.v)] fun ac S=>aiM S 6 (mO (h.below S.E) (hg.below S.E)) fun ac u E7 S=>adr S 1 [] [(7,.bool (!s.key.valid))] fun ac S=>aiF (iK _ _ ?_)
 refine aiI S (fun hc8=>?_) (fun hc8=>?_)
 ·refine aiG fun _ gB=>adr S 1 [] [(4,.int .i64 (-1))] fun ac S=>aiF<|gB _ _<|Vp.rt ?_
  refine aiH S Tryz.results25 ?_
  exact⟨by unfold aP.index; rw[if_neg (by simpa using hc8)],S.E⟩
 ·refine wp_skip<|bV _ _<|aiG (fun _ dV=>?_)
  have hv:s.key.valid=true:=by simpa using hc8
  refine adr S 3 [.mem 0 6] [(9,s.s),(10,.int .i64 id)] fun ac S=>aiM S 11 (zO (id:=id) (h.2.2.1.below S.E)) fun ac u sF S=>adr S 1 [] [(4,.int .i64 (iY (keys s.ns) id))] fun ac S=>aiF<|dV _ _<|Vp.rt ?_
  refine aiH S Tryz.results25 ?_
  exact⟨by unfold aP.index; rw[if_pos hv]; rfl,S.E⟩
theorem CB{w:World}{s:aS}(h:bW K w s)(hg:jE w)(i:Int) :
  Calls Tryz.prog 24 #[s.v,.int .i64 i] w fun e w'=>e = .returned (.int .i64 (s.key.endOf i))∧Ext w w':=by
 skip
 refine aiK Tryz.func24 Tryz.ntmps24 fun ac S=>aiG fun _ aU=>aiJ S 2 s.cells fun ac u b2 E3 hb4 S=>adr S 1 [] [(4,.int .i64 0)] fun ac S=>aiF<|aU _ _<|wp_seq_k fun _ bV=>aiG fun _ iK=>adr S 2 [.mem 0 0] [(5,s.v),(6,.int .i64 i)] fun ac S=>aiM S 7 (xY (h.below S.E) (hg.below S.E) i) fun ac u E7 S=>adr S 1 [] [(8,.bool (!(s.key.has i)))] fun ac S=>aiF (iK _ _ ?_)
 refine aiI S (fun hc8=>?_) (fun hc8=>?_)
 ·refine aiG fun _ gB=>adr S 1 [] [(4,.int .i64 (-1))] fun ac S=>aiF<|gB _ _<|Vp.rt ?_
  refine aiH S Tryz.results24 ?_
  exact⟨by unfold aP.endOf; rw[if_neg (by simpa using hc8)],S.E⟩
 ·refine wp_skip<|bV _ _<|aiG (fun _ dV=>?_)
  have hh:s.key.has i=true:=by simpa using hc8
  obtain⟨hv,k,rfl,hk⟩:=xk hh
  refine adr S 3 [.mem 0 6] [(10,s.s),(11,.int .i64 ((k:Nat):Int))] fun ac S=>aiM S 12 (xZ (h.2.2.1.below S.E) hk rfl rfl) fun ac u sF S=>adr S 1 [] [(4,.int .i64 ((eu (keys s.ns) k:Nat):Int))] fun ac S=>aiF<|dV _ _<|Vp.rt ?_
  refine aiH S Tryz.results24 ?_
  exact⟨by unfold aP.endOf; rw[if_pos hh]; rfl,S.E⟩
theorem CG{w:World}{s:aS}(h:bW K w s)(hg:jE w)(i:Int) :
  Calls Tryz.prog 36 #[s.v,.int .i64 i] w fun e w'=>e = .returned (.int .i64 (s.key.sJ i))∧Ext w w':=by
 skip
 refine aiK Tryz.func36 Tryz.ntmps36 fun ac S=>aiG fun _ aU=>aiJ S 2 s.cells fun ac u b2 E3 hb4 S=>adr S 1 [] [(4,.int .i64 0)] fun ac S=>aiF<|aU _ _<|wp_seq_k fun _ bV=>aiG fun _ iK=>adr S 2 [.mem 0 0] [(5,s.v),(6,.int .i64 i)] fun ac S=>aiM S 7 (xY (h.below S.E) (hg.below S.E) i) fun ac u E7 S=>adr S 1 [] [(8,.bool (!(s.key.has i)))] fun ac S=>aiF (iK _ _ ?_)
 refine aiI S (fun hc8=>?_) (fun hc8=>?_)
 ·refine aiG fun _ gB=>adr S 1 [] [(4,.int .i64 (-1))] fun ac S=>aiF<|gB _ _<|Vp.rt ?_
  refine aiH S Tryz.results36 ?_
  exact⟨by unfold aP.sJ; rw[if_neg (by simpa using hc8)],S.E⟩
 ·refine wp_skip<|bV _ _<|aiG (fun _ dV=>?_)
  have hh:s.key.has i=true:=by simpa using hc8
  obtain⟨hv,k,rfl,hk⟩:=xk hh
  refine adr S 3 [.mem 0 6] [(10,s.s),(11,.int .i64 ((k:Nat):Int))] fun ac S=>aiM S 12 (AY (h.2.2.1.below S.E) hk (lD hv hk) rfl) fun ac u sF S=>adr S 1 [] [(4,.int .i64 (iL (bP (keys s.ns)) k))] fun ac S=>aiF<|dV _ _<|Vp.rt ?_
  refine aiH S Tryz.results36 ?_
  exact⟨by unfold aP.sJ; rw[if_pos hh]; rfl,S.E⟩
theorem Dl{w:World}{s t:aS}(h:bW K w s)(h':bW K w t) :
  Calls Tryz.prog 23 #[s.v,t.v] w fun e w'=>e = .returned (.bool (decide (s.key=t.key)))∧Ext w w':=by
 have hmax:s.ns.length≤9223372036854775807:=h.2.2.1.len
 refine aiK Tryz.func23 Tryz.ntmps23 (fun ac S=>?_)
 obtain⟨a,cap,es⟩:∃a c,s.s = .slice a s.ns.length c:=⟨_,_,rfl⟩
 have hr:=h.2.2.1
 rw[es]at hr
 obtain⟨d,cap',et⟩:∃a c,t.s = .slice a t.ns.length c:=⟨_,_,rfl⟩
 have hr':=h'.2.2.1
 rw[et]at hr'
 refine aiG fun _ aU=>aiJ S 2 s.cells fun ac u b2 E3 hb4 S=>aiJ S 3 t.cells fun ac u b5 E6 hb7 S=>adr S 1 [] [(4,.bool false)] fun ac S=>aiF<|aU _ _<|wp_seq_k fun _ dP=>aiG fun _ gB=>adr S 28 [.mem 1 0,.mem 0 0,.mem 1 1,.mem 0 1,.mem 1 2,.mem 0 2,.cmp .neq 23 (.tmp 20) (.tmp 22) (.agg #[.int .u8 (s.bg.r.toNat:Int),.int .u8 (s.bg.g.toNat:Int),.int .u8 (s.bg.b.toNat:Int),.int .u8 (s.bg.a.toNat:Int)]) (.agg #[.int .u8 (t.bg.r.toNat:Int),.int .u8 (t.bg.g.toNat:Int),.int .u8 (t.bg.b.toNat:Int),.int .u8 (t.bg.a.toNat:Int)]) (.bool (!decide (s.bg=t.bg))),.mem 1 6,.re 27 s.s (.slice a s.ns.length cap),.mem 0 6,.re 30 t.s (.slice d t.ns.length cap')] [(33,.bool (((((s.w) != t.w)||((s.h) != t.h))||(!decide (s.bg=t.bg)))||((((s.ns.length:Nat):Int)) != ((t.ns.length:Nat):Int))))] (hk:=⟨(aiX (fun _=>ZQ s.bg t.bg _) (by kernel_rfl)),es,et,trivial⟩) fun ac S=>aiF (gB _ _ ?_)
 refine aiI S (fun bY=>?_) (fun bY=>?_)
 ·refine aiG fun _ dB=>adr S 1 [] [(4,.bool false)] fun ac S=>aiF<|dB _ _<|Vp.rt ?_
  refine aiH S Tryz.results23 ?_
  exact⟨aB (ab2 bY),S.E⟩
 ·refine wp_skip<|dP _ _<|wp_seq_k fun _ dw=>aiG fun _ fZ=>adr S 4 [.mem 1 6,.re 35 s.s (.slice a s.ns.length cap)] [(36,.int .i64 ((s.ns.length:Nat):Int)),(37,.int .i64 0)] (hk:=⟨es,trivial⟩) fun ac S=>aiF<|fZ _ _<|wp_block ?_
  refine Vp.loop (ι:=Nat) (fun p a' w'=>p≤s.ns.length∧((keys s.ns).take p=(keys t.ns).take p)∧Sx.St w a' w' 53 [(0,s.v),(1,t.v),(2,.pointer (some ⟨b2,0,none⟩)),(3,.pointer (some ⟨b5,0,none⟩)),(4,.bool false),(36,.int .i64 ((s.ns.length:Nat):Int)),(37,.int .i64 ((p:Nat):Int))] [(b5,t.cells),(b2,s.cells)] []) (fun p=>s.ns.length-p) (0) ⟨Nat.zero_le _,rfl,(S.sub [(0,s.v),(1,t.v),(2,.pointer (some ⟨b2,0,none⟩)),(3,.pointer (some ⟨b5,0,none⟩)),(4,.bool false),(36,.int .i64 ((s.ns.length:Nat):Int)),(37,.int .i64 ((0:Nat):Int))]).aK⟩ ?_
  rintro k ac u hI
  try dsimp only at hI
  obtain⟨hk,hR,S⟩:=hI
  refine aiG fun _ fU=>adr S 1 [] [(38,.bool (decide (((k:Nat):Int)<((s.ns.length:Nat):Int))))] fun ac S=>aiF<|fU _ _<|wp_seq_k (fun _ fH=>?_)
  refine aiI S (fun hc16=>?_) (fun hc16=>?_)
  ·refine wp_skip<|fH _ _<|wp_seq_k fun _ ig=>wp_block<|aiG fun _ je=>adr S 2 [] [(5,.int .i64 ((k:Nat):Int))] fun ac S=>aiF<|je _ _<|wp_seq_k (fun _ jf=>?_)
   have Iu:k<s.ns.length:=by have:=of_decide_eq_true hc16; omega
   obtain⟨b21,o22,c23,hv,adS,ZE⟩:=Vp.aF hr (fun _=>rfl) (k) Iu
   simp only[Value.slice.injEq,true_and]at hv
   obtain⟨rfl,rfl⟩:=hv
   obtain⟨x27,hx25⟩:∃z,s.ns[k]=z:=⟨_,rfl⟩
   rw[hx25]at ZE
   have S:=S.view0 adS ZE
   have OW:k<t.ns.length:=by have:=Lh bY; have:=of_decide_eq_true hc16; omega
   obtain⟨b29,o30,c31,hv,U2,J9⟩:=Vp.aF hr' (fun _=>rfl) (k) OW
   simp only[Value.slice.injEq,true_and]at hv
   obtain⟨rfl,rfl⟩:=hv
   obtain⟨y35,OX⟩:∃z,t.ns[k]=z:=⟨_,rfl⟩
   rw[OX]at J9
   have S:=S.view0 U2 J9
   refine aiO S 12 [.mem 1 6,.re 41 s.s (.slice (some ⟨b21,o22,none⟩) s.ns.length cap),.idx k s.ns.length,.mem 3 0,.mem 0 6,.re 46 t.s (.slice (some ⟨b29,o30,none⟩) t.ns.length cap'),.idx k t.ns.length,.mem 2 0] [(_,_,true,.bool (decide (x27.key=y35.key)))] [(51,.bool (!(decide (x27.key=y35.key))))] ⟨fun u hC g=>Uk ((h.2.2.2 _ (hx25▸List.getElem_mem Iu)).below (Ext.trans' S.E hC)) ((h'.2.2.2 _ (OX▸List.getElem_mem OW)).below (Ext.trans' S.E hC)),trivial⟩ (hk:=⟨es,Iu,et,OW,trivial⟩) fun ac u Iz S=>aiF (jf _ _ ?_)
   refine aiI S (fun l9=>?_) (fun l9=>?_)
   ·refine aiG fun _ jG=>adr S 1 [] [(4,.bool false)] fun ac S=>aiF<|jG _ _<|Vp.rt ?_
    refine aiH S Tryz.results23 ?_
    exact⟨aB (UD bY (ab3 Iu OW hx25 OX l9)),S.E⟩
   ·refine wp_skip<|ig _ _<|Vp.region<|adr S 2 [.re 52 (.int .i64 (IntKind.i64.wrap (((k:Nat):Int)+1))) (.int .i64 (((k+1):Nat):Int))] [(37,.int .i64 (((k+1):Nat):Int))] (hk:=⟨aiR (by omega),trivial⟩) fun ac S=>aiF ?_
    show ∃i',_∧_
    exact⟨(k+1),⟨by omega,(UE Iu OW hR hx25 OX l9),(S.sub [(0,s.v),(1,t.v),(2,.pointer (some ⟨b2,0,none⟩)),(3,.pointer (some ⟨b5,0,none⟩)),(4,.bool false),(36,.int .i64 ((s.ns.length:Nat):Int)),(37,.int .i64 (((k+1):Nat):Int))]).aK⟩,by show _-_<_-_; omega⟩
  ·refine wp_exit<|dw _ _<|aiG fun _ ug=>adr S 1 [] [(4,.bool true)] fun ac S=>aiF<|ug _ _<|Vp.rt ?_
   refine aiH S Tryz.results23 ?_
   exact⟨aB (UD bY (ZR (by have:=of_decide_eq_false hc16; omega) (Lh bY) hR)),S.E⟩
end Go.Proofs.YtfmkkemfhjkajaaGreatDoor
