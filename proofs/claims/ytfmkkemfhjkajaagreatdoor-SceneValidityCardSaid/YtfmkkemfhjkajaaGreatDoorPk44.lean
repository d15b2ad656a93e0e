/- Package scene: Children, Ancestors, Subtree. What the -/
import Derived.Test.YtfmkkemfhjkajaaGreatDoorPk43
import Derived.Test.YtfmkkemfhjkajaaGreatDoorOwn
set_option linter.unusedVariables false
namespace Go.Proofs.YtfmkkemfhjkajaaGreatDoor
section
set_option maxHeartbeats 3200000
set_option maxRecDepth 100000
open Go.RowKit
variable{α:Type}{K:Nat}
def jX(n:Nat):Value := .int .i64 ((n:Nat):Int)
abbrev RN (base:Nat)(w:World)(v:Value)(l:List Nat):Prop:=w.ownsRow base 3 1 v l.length (l.map jX)
theorem Ul{w0 w:World}{bl:List (Nat×List Value)}{e:TypeId}{k:Nat}(R:Sx.Rw w0 w bl []):Sx.Rw w0 w bl [⟨e,k,.slice none 0 0,0,[]⟩]:=
 ⟨fun r hr=>by obtain rfl:=List.mem_singleton.1 hr; exact⟨(Nat.zero_mul k).symm,.inl ⟨rfl,rfl⟩⟩,R.lt,R.apart⟩
noncomputable def aP.kids(s:aP)(i:Int):List Nat:=
 if ((((i) != -1)&&(!s.has i))||(!s.valid))=true then []else if 0≤i then ku (bP s.ns) (i.toNat+1) (eu s.ns i.toNat) (bP s.ns i.toNat+1)else ku (bP s.ns) 0 s.ns.length 0
theorem Gw{f:Nat→Int}{a k:Nat}{d:Int}(h:a≤k):ku f a (k+1) d=ku f a k d++if f k=d then [k]else []:=by
 unfold ku
 rw[show k+1-a=(k-a)+1 by omega,List.range'_concat,List.filter_append]
 simp only[Nat.one_mul,show a+(k-a)=k by omega]
 split<;>simp_all
theorem WA{f:Nat→Int}{a:Nat}{d:Int}:ku f a a d=[]:=by unfold ku; simp
theorem Jk{f:Nat→Int}{a b:Nat}{d:Int}:(ku f a b d).length≤b:=Nat.le_trans (List.length_filter_le _ _) (by simp)
theorem Jl{s:aS}(h:s.key.valid=true):s.ns.length≤64:=by
 have:=(aP.oL.1 h).2.1
 rwa [show s.key.ns.length=s.ns.length from List.length_map ..]at this
theorem Zr{s:aS}{i:Int}(h:((((i) != -1)&&(!s.key.has i))||(!s.key.valid))=false):s.ns.length≤64:=Jl (by
 simp only[Bool.or_eq_false_iff,Bool.not_eq_false']at h
 exact h.2)
theorem adJ{s:aS}{i:Int}(h:((((i) != -1)&&(!s.key.has i))||(!s.key.valid))=false)(hi:0≤i):s.key.has i=true:=by
 simp only[Bool.or_eq_false_iff,Bool.and_eq_false_iff,Bool.not_eq_false']at h
 rcases h.1 with h1 | h1
 ·simp at h1; omega
 ·exact h1
noncomputable def aP.Xr(s:aP)(i:Int):List Nat:=if s.has i=true then vO (bP s.ns) 8 i.toNat else []
def RP(f:Nat→Int)(z:Int):List Nat:=if z<0 then []else vO f 8 z.toNat
theorem WB{n:Nat}{f:Nat→Int}(T:IsTree n f){j:Nat}(hj:j<n)(h8:f j<8):RP f (j:Int)=RP f (iL f j)++[j]:=by
 unfold RP
 rw[if_neg (by omega),Int.toNat_natCast]
 show(if iL f j<0 then []else vO f 7 (iL f j).toNat)++[j]=_
 congr 1
 by_cases h:iL f j<0
 ·rw[if_pos h,if_pos h]
 ·rw[if_neg h,if_neg h]
  obtain⟨p,hp⟩:=zK (z:=iL f j) (by omega)
  have:=IsTree.Rx hp
  rw[hp,Int.toNat_natCast,T.Gh 7 p (by omega) (by omega),T.Gh 8 p (by omega) (by omega)]
theorem Zt{n:Nat}{f:Nat→Int}(T:IsTree n f){i:Nat}(hi:i<n)(h8:f i<8){z:Int}{M:List Nat}(h:vO f 8 i=RP f z++M):M.length≤8:=by
 have:=T.OE hi h8
 rw[h,List.length_append]at this
 omega
theorem Gx(l:List Nat):l.flatMap (fun n:Nat=>[jX n])=l.map jX:=by induction l<;>simp_all
theorem aa8{base:Nat}{w:World}{v:Value}{l:List Nat}(h:RN base w v l):fQ w 1 v l.length (l.map jX):=by
 have:=Sx.pI (Sx.On.self (Sx.rJ (f:=fun n:Nat=>[jX n]) (L:=l) (fun _=>rfl) h rfl (Gx l).symm)) (fun _=>rfl) (fun _=>rfl)
 rwa [Gx]at this
theorem adK{w0 w:World}{bl:List (Nat×List Value)}{r:Sx.Row}{rs:List Sx.Row}(R:Sx.Rw w0 w bl (r::rs)):Sx.Rw w0 w bl [r]:=
 R.sub ((List.Sublist.refl _).append (List.Sublist.filterMap _ (by simp))) fun x hx=>by rw[List.mem_singleton.1 hx]; exact List.mem_cons_self
theorem adL{f:Nat→Int}{k:Nat} : -1≤iL f k:=by
 rcases sW f (f k-1) k with h | ⟨j,h⟩
 ·unfold iL; omega
 ·unfold iL; omega
theorem lo_le{l:List aj}{q:Nat}(hq:q<l.length):q+1≤eu (keys l) q:=(qL (by simpa using hq)).1
theorem WC{l:List aj}{q:Nat}(hq:q<l.length):eu (keys l) q≤l.length:=by simpa using (qL (l:=keys l) (i:=q) (by simpa using hq)).2
theorem xg{w:World}{s:aS}(h:bW K w s)(hg:jE w)(i:Int) :
  Calls Tryz.prog 39 #[s.v,.int .i64 i] w fun e w'=>∃v,e = .returned v∧RN w.heap.size w' v (s.key.kids i)∧Ext w w':=by
 have hmax:s.ns.length≤9223372036854775807:=h.2.2.1.len
 refine aiK Tryz.func39 Tryz.ntmps39 (fun ac S=>?_)
 obtain⟨a,cap,es⟩:∃a c,s.s = .slice a s.ns.length c:=⟨_,_,rfl⟩
 have hr:=h.2.2.1
 rw[es]at hr
 refine aiG fun _ aU=>aiJ S 2 s.cells fun ac u b2 E3 hb4 S=>adr S 1 [] [(4,.slice none 0 0)] fun ac S=>aiF<|aU _ _<|wp_seq_k fun _ bV=>aiG fun _ iK=>aiT S 13 [.mem 0 0,.mem 0 0] [(_,_,((i) != -1),.bool (s.key.has i)),(_,_,(!(((i) != -1)&&(!(s.key.has i)))),.bool s.key.valid)] [(22,.bool ((((i) != -1)&&(!(s.key.has i)))||(!s.key.valid)))] ⟨fun u hC g=>xY (h.below (Ext.trans' S.E hC)) (hg.below (Ext.trans' S.E hC)) i,fun u hC g=>mO (h.below (Ext.trans' S.E hC)) (hg.below (Ext.trans' S.E hC)),trivial⟩ fun ac u E7 S=>aiF (iK _ _ ?_)
 refine aiI S (fun hc8=>?_) (fun hc8=>?_)
 ·refine aiG fun _ gB=>adr S 1 [] [(4,.slice none 0 0)] fun ac S=>aiF<|gB _ _<|Vp.rt ?_
  refine aiH S Tryz.results39 ?_
  exact⟨_,rfl,by unfold aP.kids; rw[if_pos hc8]; exact⟨rfl,.inl ⟨rfl,rfl⟩⟩,S.E⟩
 ·refine wp_skip<|bV _ _<|wp_seq_k fun _ dV=>aiO S 5 [.mem 0 6,.re 24 s.s (.slice a s.ns.length cap)] [] [(5,.int .i64 0),(6,.int .i64 0),(25,.int .i64 ((s.ns.length:Nat):Int))] trivial (hk:=⟨es,trivial⟩) fun ac u sF S=>adr S 1 [] [(7,.int .i64 ((s.ns.length:Nat):Int))] fun ac S=>aiF<|dV _ _<|wp_seq_k (fun κq dw=>?_)
  have J13:∀(lo hi:Nat) (d:Int) (ac:Act) (u:World),(lo≤hi)→(hi≤s.ns.length)→(s.key.kids i=ku (bP (keys s.ns)) lo hi d)→Sx.St w ac u 60 [(2,.pointer (some ⟨b2,0,none⟩)),(5,.int .i64 d),(6,.int .i64 ((lo:Nat):Int)),(7,.int .i64 ((hi:Nat):Int))] [(b2,s.cells)] []→κq ac u:=by
   intro lo hi d ac u hlh hhn hkk S
   refine dw _ _<|aiG fun _ fU=>adr S 1 [] [(8,.slice none 0 0)] fun ac S=>aiF<|fU _ _<|wp_seq_k fun _ fH=>aiG fun _ iR=>adr S 2 [] [(9,.int .i64 ((lo:Nat):Int))] fun ac S=>aiF<|iR _ _<|wp_block ?_
   have hsl:=Zr hc8
   have R:=Sx.Rw.nil S
   have R:=Ul (e:=3) (k:=1) R
   refine Vp.loop (ι:=Value×Nat) (fun p a' w'=>(lo≤p.2∧p.2≤hi)∧Sx.Rw w w' [(b2,s.cells)] [⟨3,1,p.1,(ku (bP (keys s.ns)) lo p.2 d).length,(ku (bP (keys s.ns)) lo p.2 d).map jX⟩]∧Sx.St w a' w' 60 [(2,.pointer (some ⟨b2,0,none⟩)),(5,.int .i64 d),(6,.int .i64 ((lo:Nat):Int)),(7,.int .i64 ((hi:Nat):Int)),(8,p.1),(9,.int .i64 ((p.2:Nat):Int))] [(b2,s.cells)] []) (fun p=>hi-p.2) (.slice none 0 0,lo) ⟨⟨Nat.le_refl _,hlh⟩,R.as (by rw[WA]; rfl),(S.sub [(2,.pointer (some ⟨b2,0,none⟩)),(5,.int .i64 d),(6,.int .i64 ((lo:Nat):Int)),(7,.int .i64 ((hi:Nat):Int)),(8,.slice none 0 0),(9,.int .i64 ((lo:Nat):Int))]).aK⟩ ?_
   rintro⟨v,k⟩ ac u hI
   try dsimp only at hI
   obtain⟨hR,R,S⟩:=hI
   refine wp_seq_k fun _ ig=>aiG fun _ je=>adr S 3 [] [(44,.bool (decide (((k:Nat):Int)<((hi:Nat):Int))))] fun ac S=>aiF (je _ _ ?_)
   refine aiI S (fun hc19=>?_) (fun hc19=>?_)
   ·refine wp_skip<|ig _ _<|wp_seq_k fun _ iU=>wp_block<|aiG (fun _ jo=>?_)
    have jq:k<s.ns.length:=by have:=of_decide_eq_true hc19; omega
    obtain⟨b22,Tc,c24,hv,Ac,uo⟩:=Vp.aF hr (fun _=>rfl) (k) jq
    simp only[Value.slice.injEq,true_and]at hv
    obtain⟨rfl,rfl⟩:=hv
    obtain⟨x28,kG⟩:∃z,s.ns[k]=z:=⟨_,rfl⟩
    rw[kG]at uo
    have S:=S.view0 Ac uo
    refine adr S 8 [.mem 0 6,.re 48 s.s (.slice (some ⟨b22,Tc,none⟩) s.ns.length cap),.idx k s.ns.length,.mem 1 2] [(54,.bool ((x28.depth)==d))] (hk:=⟨es,jq,trivial⟩) fun ac S=>aiF (jo _ _ ?_)
    refine aiI S (fun rC=>?_) (fun rC=>?_)
    ·refine Vp.region<|adr S 2 [] [(55,v),(56,.int .i64 ((k:Nat):Int))] fun ac S=>Sx.news S 57 1 [.int .i64 ((k:Nat):Int)] (fun ac u b31 E32 adB S=>?_)
     obtain⟨R,Y34⟩:=R.eH S (Sx.Stp.NJ E32 adB)
     refine Sx.app S R 0 58 rfl LW (Sx.Fv (m:=1) (k:=1) (A:=[.int .i64 ((k:Nat):Int)]) (S.bx 0)) (by have:=Jk (f:=bP (keys s.ns)) (a:=lo) (b:=k) (d:=d); show(ku (bP (keys s.ns)) lo k d).length+1≤9223372036854775807; have:=hR.2; omega) (by have:=Jk (f:=bP (keys s.ns)) (a:=lo) (b:=k) (d:=d); show((ku (bP (keys s.ns)) lo k d).length+1)*8≤140737488355328; have:=hR.2; omega) fun ac u v35 X36 R S=>adr S 1 [] [(8,v35)] fun ac S=>aiF<|iU _ _<|Vp.region<|adr S 3 [.re 46 (.int .i64 (IntKind.i64.wrap (((k:Nat):Int)+1))) (.int .i64 (((k+1):Nat):Int))] [(9,.int .i64 (((k+1):Nat):Int))] (hk:=⟨aiR (by omega),trivial⟩) fun ac S=>aiF ?_
     have S:=S.uD 1
     obtain⟨R,Y37⟩:=R.eH S (Sx.Stp.Fq 1)
     show ∃i',_∧_
     have hdec:=of_decide_eq_true hc19
     exact⟨(v35,(k+1)),⟨⟨by omega,by have:=of_decide_eq_true hc19; omega⟩,R.as (show [(⟨3,1,v35,(ku (bP (keys s.ns)) lo k d).length+1,(ku (bP (keys s.ns)) lo k d).map jX++[jX k]⟩:Sx.Row)]=[⟨3,1,v35,(ku (bP (keys s.ns)) lo (k+1) d).length,(ku (bP (keys s.ns)) lo (k+1) d).map jX⟩] by rw[Gw hR.1,dK jq,kG,if_pos (by simpa using rC)]; simp),(S.sub [(2,.pointer (some ⟨b2,0,none⟩)),(5,.int .i64 d),(6,.int .i64 ((lo:Nat):Int)),(7,.int .i64 ((hi:Nat):Int)),(8,v35),(9,.int .i64 (((k+1):Nat):Int))]).aK⟩,by show hi-(k+1)<hi-k; omega⟩
    ·refine wp_skip<|iU _ _<|Vp.region<|adr S 3 [.re 46 (.int .i64 (IntKind.i64.wrap (((k:Nat):Int)+1))) (.int .i64 (((k+1):Nat):Int))] [(9,.int .i64 (((k+1):Nat):Int))] (hk:=⟨aiR (by omega),trivial⟩) fun ac S=>aiF ?_
     show ∃i',_∧_
     have hdec:=of_decide_eq_true hc19
     exact⟨(v,(k+1)),⟨⟨by omega,by have:=of_decide_eq_true hc19; omega⟩,R.as (congrArg (fun l:List Nat=>[(⟨3,1,v,l.length,l.map jX⟩:Sx.Row)]) (show(ku (bP (keys s.ns)) lo k d)=(ku (bP (keys s.ns)) lo (k+1) d) by rw[Gw hR.1,dK jq,kG,if_neg (by simpa using rC)]; simp)),(S.sub [(2,.pointer (some ⟨b2,0,none⟩)),(5,.int .i64 d),(6,.int .i64 ((lo:Nat):Int)),(7,.int .i64 ((hi:Nat):Int)),(8,v),(9,.int .i64 (((k+1):Nat):Int))]).aK⟩,by show hi-(k+1)<hi-k; omega⟩
   ·refine wp_exit<|fH _ _<|aiG fun _ jG=>adr S 2 [] [(4,v)] fun ac S=>aiF<|jG _ _<|Vp.rt ?_
    obtain rfl:k=hi:=by have:=of_decide_eq_false hc19; omega
    refine aiH S Tryz.results39 ?_
    exact⟨_,rfl,by rw[hkk]; exact R.own _ List.mem_cons_self,S.E⟩
  refine aiG fun _ ug=>adr S 2 [] [(27,.bool (decide (0≤i)))] fun ac S=>aiF (ug _ _ ?_)
  refine aiI S (fun uI=>?_) (fun uI=>?_)
  ·have hi0:=of_decide_eq_true uI
   have hh:=adJ hc8 hi0
   obtain⟨hv,q,rfl,hq⟩:=xk hh
   have hdx:=lD hv hq
   have ae5:q<s.ns.length:=hq
   obtain⟨b42,o43,c44,hv,ahl,ae6⟩:=Vp.aF hr (fun _=>rfl) (q) ae5
   simp only[Value.slice.injEq,true_and]at hv
   obtain⟨rfl,rfl⟩:=hv
   obtain⟨x48,adM⟩:∃z,s.ns[q]=z:=⟨_,rfl⟩
   rw[adM]at ae6
   rw[adM]at hdx
   have S:=S.view0 ahl ae6
   refine aiO S 14 [.mem 0 6,.re 29 s.s (.slice (some ⟨b42,o43,none⟩) s.ns.length cap),.idx q s.ns.length,.mem 1 2,Sx.kw 34 (x48.depth+1),.re 36 (.int .i64 (IntKind.i64.wrap (((q:Nat):Int)+1))) (.int .i64 (((q+1):Nat):Int)),.mem 0 6,.re 38 s.s (.slice (some ⟨b42,o43,none⟩) s.ns.length cap)] [(_,_,true,.int .i64 ((eu (keys s.ns) q:Nat):Int))] [(5,.int .i64 (x48.depth+1)),(36,.int .i64 (((q+1):Nat):Int)),(40,.int .i64 ((eu (keys s.ns) q:Nat):Int))] ⟨fun u hC g=>xZ (hr.below (Ext.trans' S.E hC)) hq rfl rfl,trivial⟩ (hk:=⟨es,ae5,Sx.AX (by omega),aiR (by omega),es,trivial⟩) fun ac u E41 S=>adr S 2 [] [(6,.int .i64 (((q+1):Nat):Int)),(7,.int .i64 ((eu (keys s.ns) q:Nat):Int))] fun ac S=>aiF ?_
   exact J13 (q+1) (eu (keys s.ns) q) (x48.depth+1) _ _ (lo_le hq) (WC hq) (by unfold aP.kids; rw[if_neg (by simp[hc8]),if_pos (by omega),Int.toNat_natCast,show s.key.ns=keys s.ns from rfl,dK hq,adM]) (S.sub [(2,.pointer (some ⟨b2,0,none⟩)),(5,.int .i64 (x48.depth+1)),(6,.int .i64 (((q+1):Nat):Int)),(7,.int .i64 ((eu (keys s.ns) q:Nat):Int))]).aK
  ·refine wp_skip ?_
   exact J13 0 s.ns.length 0 _ _ (Nat.zero_le _) (Nat.le_refl _) (by unfold aP.kids; rw[if_neg (by simp[hc8]),if_neg (by have:=of_decide_eq_false uI; omega),show s.key.ns=keys s.ns from rfl,List.length_map]) (S.sub [(2,.pointer (some ⟨b2,0,none⟩)),(5,.int .i64 0),(6,.int .i64 0),(7,.int .i64 ((s.ns.length:Nat):Int))]).aK
theorem aa9{n:Nat}{f:Nat→Int}(T:IsTree n f){j:Nat}(hj:j<n):iL f j<(j:Int):=by
 by_cases h:iL f j<0
 ·omega
 ·obtain⟨p,hp⟩:=zK (z:=iL f j) (by omega)
  have:=IsTree.Rx hp
  omega
theorem DK{w:World}{s:aS}(h:bW K w s)(hg:jE w)(i:Int) :
  Calls Tryz.prog 41 #[s.v,.int .i64 i] w fun e w'=>∃v,e = .returned v∧RN w.heap.size w' v (s.key.Xr i)∧Ext w w':=by
 skip
 refine aiK Tryz.func41 Tryz.ntmps41 (fun ac S=>?_)
 obtain⟨a,cap,es⟩:∃a c,s.s = .slice a s.ns.length c:=⟨_,_,rfl⟩
 have hr:=h.2.2.1
 rw[es]at hr
 refine aiG fun _ aU=>aiJ S 2 s.cells fun ac u b2 E3 hb4 S=>adr S 1 [] [(4,.slice none 0 0)] fun ac S=>aiF<|aU _ _<|wp_seq_k fun _ bV=>aiG fun _ iK=>adr S 2 [.mem 0 0] [(7,s.v),(8,.int .i64 i)] fun ac S=>aiM S 9 (xY (h.below S.E) (hg.below S.E) i) fun ac u E7 S=>adr S 1 [] [(10,.bool (!(s.key.has i)))] fun ac S=>aiF (iK _ _ ?_)
 refine aiI S (fun hc8=>?_) (fun hc8=>?_)
 ·refine aiG fun _ gB=>adr S 1 [] [(4,.slice none 0 0)] fun ac S=>aiF<|gB _ _<|Vp.rt ?_
  refine aiH S Tryz.results41 ?_
  exact⟨_,rfl,by unfold aP.Xr; rw[if_neg (by simpa using hc8)]; exact⟨rfl,.inl ⟨rfl,rfl⟩⟩,S.E⟩
 ·refine wp_skip<|bV _ _<|aiG (fun _ dV=>?_)
  have hh:s.key.has i=true:=by simpa using hc8
  obtain⟨hv,q,rfl,hq⟩:=xk hh
  have T:IsTree s.ns.length (bP (keys s.ns)):=by have:=(Gy hv).tree; rwa [show s.key.ns.length=s.ns.length from List.length_map ..]at this
  have hq8:bP (keys s.ns) q<8:=by rw[dK hq]; exact(lD hv hq).2
  refine adr S 1 [] [(5,.slice none 0 0)] fun ac S=>aiF<|dV _ _<|wp_seq_k fun _ dB=>aiG fun _ dw=>adr S 2 [] [(6,.int .i64 ((q:Nat):Int))] fun ac S=>aiF<|dw _ _<|wp_block ?_
  have R:=Sx.Rw.nil S
  have R:=Ul (e:=3) (k:=1) R
  refine Vp.loop (ι:=Int×Value×List Nat) (fun p a' w'=>(-1≤p.1∧p.1<(s.ns.length:Int)∧vO (bP (keys s.ns)) 8 q=RP (bP (keys s.ns)) p.1++p.2.2)∧Sx.Rw w w' [(b2,s.cells)] [⟨3,1,p.2.1,p.2.2.length,p.2.2.map jX⟩]∧Sx.St w a' w' 23 [(0,s.v),(1,.int .i64 ((q:Nat):Int)),(2,.pointer (some ⟨b2,0,none⟩)),(4,.slice none 0 0),(5,p.2.1),(6,.int .i64 p.1)] [(b2,s.cells)] []) (fun p=>(p.1+1).toNat) (((q:Nat):Int),.slice none 0 0,[]) ⟨⟨by omega,by omega,by unfold RP; rw[if_neg (by omega),Int.toNat_natCast,List.append_nil]⟩,R,(S.sub [(0,s.v),(1,.int .i64 ((q:Nat):Int)),(2,.pointer (some ⟨b2,0,none⟩)),(4,.slice none 0 0),(5,.slice none 0 0),(6,.int .i64 ((q:Nat):Int))]).aK⟩ ?_
  rintro⟨z,v,M⟩ ac u hI
  try dsimp only at hI
  obtain⟨hR,R,S⟩:=hI
  refine wp_seq_k fun _ fZ=>aiG fun _ fU=>adr S 2 [] [(13,.bool (decide (0≤z)))] fun ac S=>aiF (fU _ _ ?_)
  refine aiI S (fun oD=>?_) (fun oD=>?_)
  ·obtain⟨j,rfl⟩:=zK (of_decide_eq_true oD)
   have hj:j<s.ns.length:=by omega
   have h8:bP (keys s.ns) j<8:=by rw[dK hj]; exact(lD hv hj).2
   refine wp_skip<|fZ _ _<|wp_seq_k fun _ iR=>wp_block<|Vp.region<|adr S 1 [] [(18,.int .i64 ((j:Nat):Int))] fun ac S=>Sx.newRow S R 19 1 3 1 [jX j] fun ac u v17 JD X19 R S=>adr S 1 [] [(20,v)] (fun ac S=>?_)
   have hM:=Zt T hq hq8 hR.2.2
   refine Sx.app S R 0 21 rfl LW (aa8 (R.own _ (List.mem_cons_of_mem _ List.mem_cons_self))) (by show 1+M.length≤9223372036854775807; omega) (by show(1+M.length)*8≤140737488355328; omega) (fun ac u v20 X21 R S=>?_)
   have R:=adK R
   refine adr S 1 [] [(5,v20)] fun ac S=>aiF<|iR _ _<|Vp.region<|adr S 3 [.mem 0 6,.re 15 s.s (.slice a s.ns.length cap)] [(15,.slice a s.ns.length cap),(16,.int .i64 ((j:Nat):Int))] (hk:=⟨es,trivial⟩) fun ac S=>aiM S 17 (AY (hr.below S.E) hj (lD hv hj) rfl) fun ac u E22 S=>adr S 1 [] [(6,.int .i64 (iL (bP (keys s.ns)) j))] fun ac S=>aiF ?_
   obtain⟨R,Y23⟩:=R.eH S (Sx.Stp.ext E22)
   show ∃i',_∧_
   have hpg:=adL (f:=(bP (keys s.ns))) (k:=j)
   have hpl:iL (bP (keys s.ns)) j<j:=aa9 T hj
   exact⟨((iL (bP (keys s.ns)) j),v20,(j::M)),⟨⟨hpg,by omega,by rw[hR.2.2,WB T hj h8]; simp⟩,R.as (show [(⟨3,1,v20,1+M.length,[jX j]++M.map jX⟩:Sx.Row)]=[⟨3,1,v20,(j::M).length,(j::M).map jX⟩] by rw[Nat.add_comm]; rfl),(S.sub [(0,s.v),(1,.int .i64 ((q:Nat):Int)),(2,.pointer (some ⟨b2,0,none⟩)),(4,.slice none 0 0),(5,v20),(6,.int .i64 (iL (bP (keys s.ns)) j))]).aK⟩,by show(iL (bP (keys s.ns)) j+1).toNat<(((j:Nat):Int)+1).toNat; omega⟩
  ·refine wp_exit<|dB _ _<|aiG fun _ kK=>adr S 2 [] [(4,v)] fun ac S=>aiF<|kK _ _<|Vp.rt ?_
   have hz:=of_decide_eq_false oD
   refine aiH S Tryz.results41 ?_
   exact⟨_,rfl,by unfold aP.Xr; rw[if_pos hh,Int.toNat_natCast,show s.key.ns=keys s.ns from rfl,hR.2.2]; unfold RP; rw[if_pos (by omega),List.nil_append]; exact R.own _ List.mem_cons_self,S.E⟩
end
section
variable{s:aS}{i:Nat}
theorem abb(hv:s.key.valid=true)(hi:i<s.ns.length):s.key.has i=true:=by
 unfold aP.has
 rw[hv,show s.key.ns.length=s.ns.length from List.length_map ..]
 simp[hi]
theorem Gz(hv:s.key.valid=true):IsTree s.ns.length (bP (keys s.ns)):=by
 have:=(Gy hv).tree
 rwa [show s.key.ns.length=s.ns.length from List.length_map ..]at this
theorem abd(hv:s.key.valid=true):s.key.kids (-1)=Gg s.ns.length (bP (keys s.ns)) (-1):=by
 unfold aP.kids
 rw[if_neg (by simp[hv]),if_neg (by decide),Zj (Gz hv),show s.key.ns.length=s.ns.length from List.length_map ..]
 rfl
theorem Zu(hv:s.key.valid=true)(hi:i<s.ns.length):s.key.kids i=Gg s.ns.length (bP (keys s.ns)) i:=by
 unfold aP.kids
 rw[if_neg (by simp[hv,abb hv hi]),if_pos (by omega),Wj (Gz hv) hi]
 show ku _ (i+1) (eu (keys s.ns) i) _=_
 rw[rD (by simpa using hi),show(keys s.ns).length=s.ns.length from List.length_map ..]
 rfl
theorem ni{base:Nat}{w:World}{v:Value}{L:List Nat}(h:RN base w v L):aT 1 (fun n:Nat=>[jX n]) w v L:=Sx.On.self (Sx.rJ (f:=fun n:Nat=>[jX n]) (L:=L) (fun _=>rfl) h rfl (Gx L).symm)
end
end Go.Proofs.YtfmkkemfhjkajaaGreatDoor
section
namespace Go.Sx
open Go.Proofs.YtfmkkemfhjkajaaGreatDoor Go.RowKit Go.Rel
structure Rl (kp:TypeId→Nat→Bool) (base:Nat) (w w':World):Prop where
 bel:Below base w w'
 obj:∀(g:Nat) (cur:Array Value) (e:TypeId),w.heap[g]?=some (.cells cur e (0,0))→∃cur':Array Value,w'.heap[g]?=some (.cells cur' e (0,0))∧cur'.size=cur.size∧∀i:Nat,kp e i=true→cur'[i]?=cur[i]?
section
variable{kp:TypeId→Nat→Bool}{base:Nat}{w w' w2:World}
theorem Rl.refl:Rl kp base w w:=⟨Below.refl _ _,fun g cur e h=>⟨cur,h,rfl,fun _ _=>rfl⟩⟩
theorem Rl.trans(h:Rl kp base w w')(k:Rl kp base w' w2):Rl kp base w w2:=⟨h.bel.trans k.bel,fun g cur e hg=>by
 obtain⟨c1,h1,h2,h3⟩:=h.obj g cur e hg
 obtain⟨c2,k1,k2,k3⟩:=k.obj g c1 e h1
 exact⟨c2,k1,k2.trans h2,fun i hi=>(k3 i hi).trans (h3 i hi)⟩⟩
theorem Rl.ext(h:Rl kp base w w')(hE:Ext w' w2)(hb:base≤w'.heap.size):Rl kp base w w2:=h.trans ⟨⟨hE.os,hE.tape,hE.output,hE.size,fun k hk=>hE.block k (Nat.lt_of_lt_of_le hk hb)⟩,fun g cur e hg=>⟨cur,(hE.block g (rH hg).1).trans hg,rfl,fun _ _=>rfl⟩⟩
theorem Rl.set{g off:Nat}{cur:Array Value}{e:TypeId}{cs:List Value}(h:w.heap[g]?=some (.cells cur e (0,0)))(hb:base≤g)(hf:off+cs.length≤cur.size)(hk:∀j,j<cs.length→kp e (off+j)=false):Rl kp base w (w.setCells g off cs):=by
 have hc:Ch g w (w.setCells g off cs):=(Ch.refl g w).setCells cs off
 refine⟨hc.below hb (Nat.le_trans hb (Nat.le_of_lt (rH h).1)),fun g' cur' e' hg'=>?_⟩
 by_cases hgg:g'=g
 ·subst hgg
  rw[h]at hg'
  simp only[Option.some.injEq,Obj.cells.injEq,and_true]at hg'
  obtain⟨rfl,rfl⟩:=hg'
  refine⟨_,vK g' e (0,0) cs off w cur h hf,by unfold spl; simp; omega,fun i hi=>?_⟩
  rw[List.getElem?_toArray]
  unfold spl
  rw[List.getElem?_append,List.getElem?_append]
  simp only[List.length_append,List.length_take,Array.length_toList,List.getElem?_take,List.getElem?_drop]
  rw[Nat.min_eq_left (by omega)]
  by_cases h1:i<off
  ·simp[h1,show i<off+cs.length by omega]
  ·by_cases h2:i<off+cs.length
   ·exfalso
    have:=hk (i-off) (by omega)
    rw[show off+(i-off)=i by omega,hi]at this
    cases this
   ·simp[h2,show off+cs.length+(i-(off+cs.length))=i by omega]
 ·exact⟨cur',(hc.block g' (rH hg').1 fun e=>hgg (Option.some.inj e)).trans hg',rfl,fun _ _=>rfl⟩
theorem Ty.now{k n:Nat}{e:TypeId}{v:Value}(h:Ty e k base v n w)(hR:Rl kp base w w')(hn:0<n):∃g cap,v = .slice (some ⟨g,0,none⟩) n cap∧base≤g∧g<w.heap.size∧∃cur,w'.heap[g]?=some (.cells cur e (0,0))∧n*k≤cur.size:=by
 rcases h with h | ⟨g,cap,cur,h1,h2,h3,h4⟩
 ·omega
 ·obtain⟨c,h5,h6,-⟩:=hR.obj g cur e h3
  exact⟨g,cap,h1,h2,(rH h3).1,c,h5,by rw[h6]; exact h4⟩
theorem kD.now{α:Type}{k:Nat}{e:TypeId}{f:α→List Value}{v:Value}{L:List α}(h:kD e k f base v L w)(hR:Rl kp base w w'){i:Nat}(hi:i<L.length)(j m:Nat){cs:List Value}(hm:j+cs.length≤k)(hc:((f L[i]).drop j).take cs.length=cs)(hk:∀q,q<cs.length→kp e (i*k+j+q)=true){g cap:Nat}(hv:v = .slice (some ⟨g,0,none⟩) L.length cap):w'.rangeAt g (0+i*k+j) cs:=by
 subst hv
 obtain⟨hrow,hty⟩:=h
 rcases hty with hty | ⟨g',cap',cur,h1,h2,h3,h4⟩
 ·omega
 ·simp only[Value.slice.injEq,Option.some.injEq,Addr.mk.injEq,and_true,true_and]at h1
  obtain⟨rfl,rfl⟩:=h1
  obtain⟨c,h5,h6,h7⟩:=hR.obj g cur e h3
  obtain⟨a,cp,hv,hm2,⟨rfl,_⟩ | ⟨b,o,rfl,hb,hl,hcell⟩⟩:=hrow
  ·simp at hi
  ·simp only[Value.slice.injEq,Option.some.injEq,Addr.mk.injEq,and_true,true_and]at hv
   obtain⟨⟨rfl,rfl⟩,rfl⟩:=hv
   intro q u hq
   have hql:q<cs.length:=by
    by_cases h:q<cs.length
    ·exact h
    ·rw[List.getElem?_eq_none (by omega)]at hq; cases hq
   have h8:=hcell i hi (j+q) (by omega)
   rw[(rH h3).2.1]at h8
   have h9:=h7 (i*k+j+q) (hk q hql)
   rw[(rH h5).2.1,show 0+i*k+j+q=i*k+j+q by omega,h9,show i*k+j+q=0+i*k+(j+q) by omega,h8]
   rw[←hc,List.getElem?_take_of_lt hql,List.getElem?_drop]at hq
   exact hq
variable{P:Program}{ops:Array Oper}{Q:Exit→Act→World→Prop}{w0:World}{a:Act}{os:List Oper}{n:Nat}{l:List (Nat×Value)}{bl:List (Nat×List Value)}{vs:List iG}
def cut(base:Nat)(w:World):World:={ w with heap:=w.heap.extract 0 base }
theorem OG(hb:base≤w.heap.size):(cut base w).heap.size=base:=by unfold cut; simp; omega
theorem abe(hb:base≤w.heap.size):Ext (cut base w) w:=⟨rfl,rfl,rfl,by rw[OG hb]; exact hb,fun k hk=>by
 rw[OG hb]at hk
 unfold cut
 rw[Array.getElem?_extract]
 simp; omega⟩
theorem St.from(S:St w a w n l [] [])(hb:base≤w.heap.size):St (cut base w) a w n l [] []:=⟨S.s,abe hb,fun p hp=>(by cases hp),S.apart,fun m hm=>(by cases hm)⟩
end
end Go.Sx
end
section
namespace Go.Sx
open Go.Proofs.YtfmkkemfhjkajaaGreatDoor Go.RowKit Go.Rel
section
variable{w0 w w1 w2:World}{a a0:Act}{n:Nat}{l l0:List (Nat×Value)}{bl:List (Nat×List Value)}{vs vs0:List iG}
theorem St.re(S:St w0 a w n l bl vs):St w a w n l [] (oH bl vs):=⟨S.s,Ext.rfl',fun p hp=>(by cases hp),List.nodup_nil,fun m hm=>⟨S.GH m hm,fun p hp=>(by cases hp)⟩⟩
theorem St.back(S0:St w0 a0 w1 n l0 bl vs0)(S:St w2 a w n l [] vs)(h:Ext w1 w2):St w0 a w n l bl []:=
 have hE:Ext w1 w:=Ext.trans' h S.E
 ⟨S.s,(S0.grow hE).E,(S0.grow hE).own,S0.apart,fun m hm=>by cases hm⟩
end
theorem yc{n:Nat}(h:1≤n)(h2:n≤9223372036854775807):Value.int .i64 (IntKind.i64.wrap (((n:Nat):Int)-1)) = .int .i64 ((n-1:Nat):Int):=by
 have:IntKind.i64.wrap (((n:Nat):Int)-1)=((n-1:Nat):Int):=by rw[IntKind.wrap_i64]; omega
 rw[this]
end Go.Sx
end
section
namespace Go.Proofs.YtfmkkemfhjkajaaGreatDoor
open Go.RowKit
variable{α:Type}{K:Nat}
structure jd where
 a:Option Addr
 l:List aj
def jd.v(t:jd):Value := .slice t.a t.l.length t.l.length
abbrev jd.key (t:jd):List aJ:=keys t.l
abbrev KJ (K:Nat)(w:World)(v:Value)(l:List jd):Prop:=aT 1 (fun t=>[t.v]) w v l∧∀t∈l,oq K w t.v t.l
theorem KJ.below{w w':World}{v:Value}{l:List jd}(h:KJ K w v l)(hb:Ext w w'):KJ K w' v l:=⟨h.1.below hb,fun t ht=>(h.2 t ht).below hb⟩
structure KL (K:Nat) (w:World) (L:List aj) (i:Nat) (ts:List jd):Prop where
 le:i≤L.length
 key:BQ (keys L)=ts.map jd.key++BQ ((keys L).drop i)
 flat:(ts.map jd.l).flatten=L.take i
 ok:∀t∈ts,oq K w t.v t.l
 len:ts.length≤i
 ne:∀t∈ts,0<t.l.length
theorem abf{β:Type}(p:β→Bool)(X:List β):X.take (X.takeWhile p).length=X.takeWhile p∧X.drop (X.takeWhile p).length=X.dropWhile p:=by
 have h:=List.takeWhile_append_dropWhile (p:=p) (l:=X)
 generalize X.takeWhile p=A at *
 generalize X.dropWhile p=B at *
 subst h
 exact⟨List.take_left,List.drop_left⟩
theorem RQ{l:List aJ}{i:Nat}(hi:i<l.length):BQ (l.drop i)=((l.drop i).take (eu l i-i))::BQ (l.drop (eu l i)):=by
 have hd:l.drop i=l[i]::l.drop (i+1):=(List.getElem_cons_drop hi).symm
 have h1:=qL hi
 have e:eu l i-i=((l.drop (i+1)).takeWhile fun κ=>decide (l[i].depth<κ.depth)).length+1:=by
  unfold eu; rw[pq hi]; omega
 obtain⟨t1,t2⟩:=abf (fun κ:aJ=>decide (l[i].depth<κ.depth)) (l.drop (i+1))
 rw[show l.drop (eu l i)=(l.drop (i+1)).drop (eu l i-i-1) by rw[List.drop_drop]; congr 1; omega,e,Nat.add_sub_cancel,hd,RD,List.take_succ_cons,t1,t2]
theorem KN{w:World}{a:Option Addr}{L:List aj}{c i j:Nat}(h:oq K w (.slice a L.length c) L)(hi:i≤j)(hj:j≤L.length):oq K w (.slice (Sx.wz a i j 47) (j-i) (j-i)) ((L.drop i).take (j-i)):=
 ⟨Sx.rE h.1 hi hj (Nat.le_refl j) (Nat.le_trans hj (Sx.pJ h.1)),fun n hn=>h.2 n (List.mem_of_mem_drop (List.mem_of_mem_take hn))⟩
theorem KL.step{w:World}{a:Option Addr}{L:List aj}{c i:Nat}{ts:List jd}(h:oq K w (.slice a L.length c) L)(hT:KL K w L i ts)(hi:i<L.length) :
  KL K w L (eu (keys L) i) (ts++[⟨Sx.wz a i (eu (keys L) i) 47,(L.drop i).take (eu (keys L) i-i)⟩]):=by
 have hi':i<(keys L).length:=by simpa using hi
 obtain⟨h1,h2⟩:=qL hi'
 have h3:eu (keys L) i≤L.length:=by simpa using h2
 refine⟨h3,?_,?_,fun t ht=>?_,?_,fun t ht=>?_⟩
 ·rw[hT.key,RQ hi',List.map_append,List.map_singleton,List.append_assoc,List.singleton_append]
  show _=_++((L.drop i).take _).map _::_
  rw[List.map_take,List.map_drop]
 ·rw[List.map_append,List.flatten_append,hT.flat,List.map_singleton,List.flatten_singleton]
  conv=>rhs; rw[show eu (keys L) i=i+(eu (keys L) i-i) by omega,List.take_add]
 ·rcases List.mem_append.1 ht with ht | ht
  ·exact hT.ok t ht
  ·rw[List.mem_singleton.1 ht]
   have:=KN h (i:=i) (j:=eu (keys L) i) (by omega) h3
   unfold jd.v
   rwa [show((L.drop i).take (eu (keys L) i-i)).length=eu (keys L) i-i by simp; omega]
 ·rw[List.length_append,List.length_singleton]; have:=hT.len; omega
 ·rcases List.mem_append.1 ht with ht | ht
  ·exact hT.ne t ht
  ·rw[List.mem_singleton.1 ht]; simp; omega
theorem OH:∀{x y:List (List aJ)} {p:Nat},p≤x.length→p≤y.length→x.take p=y.take p→(∀(hx:p<x.length) (hy:p<y.length),x[p]≠y[p])→pK x y=p
 | [],y,p,h1,_,_,_=>by
  obtain rfl:p=0:=by simpa using h1
  simp[pK]
 | x::a,[],p,_,h2,_,_=>by
  obtain rfl:p=0:=by simpa using h2
  simp[pK]
 | x::a,y::b,0,_,_,_,h=>by
  unfold pK
  have:=h (by simp) (by simp)
  simp only[List.getElem_cons_zero]at this
  rw[if_neg this]
 | x::a,y::b,p+1,h1,h2,h3,h4=>by
  rw[List.take_succ_cons,List.take_succ_cons,List.cons.injEq]at h3
  unfold pK
  rw[if_pos h3.1,OH (by simpa using h1) (by simpa using h2) h3.2 fun hx hy=>by
   have:=h4 (by simpa using hx) (by simpa using hy)
   simpa using this]
theorem rev_at{x:List (List aJ)}{p q:Nat}(h:q+p<x.length):∃h2:q<(x.drop p).reverse.length,(x.drop p).reverse[q]=x[x.length-1-q]'(by omega):=by
 refine⟨by simp; omega,?_⟩
 rw[List.getElem_reverse,List.getElem_drop]
 congr 1
 simp only[List.length_drop]; omega
abbrev ny (l:List jd):List (List aJ):=l.map jd.key
theorem Um{l:List jd}{k:Nat}{x:jd}(h:k<l.length)(hx:l[k]=x):(ny l)[k]'(by simpa using h)=x.key:=by simp[hx]
structure Ip (l m:List jd) (p:Nat):Prop where
 l1:p≤l.length
 l2:p≤m.length
 e:(ny l).take p=(ny m).take p
theorem Ip.zero(l m:List jd):Ip l m 0:=⟨Nat.zero_le _,Nat.zero_le _,rfl⟩
theorem Ip.step{l m:List jd}{p:Nat}(h:Ip l m p)(h1:p<l.length)(h2:p<m.length){x y:jd}(hx:l[p]=x)(hy:m[p]=y)(he:decide (keys x.l=keys y.l)=true):Ip l m (p+1):=by
 refine⟨h1,h2,?_⟩
 rw[List.take_succ_eq_append_getElem (by simpa using h1),List.take_succ_eq_append_getElem (by simpa using h2),h.e,Um h1 hx,Um h2 hy]
 have:=of_decide_eq_true he
 rw[show x.key=y.key from this]
theorem Ip.full{l m:List jd}{p:Nat}(h:Ip l m p)(hn:¬p<min l.length m.length):pK (ny l) (ny m)=p:=
 OH (by simpa using h.l1) (by simpa using h.l2) h.e fun hx hy=>by simp at hx hy; omega
theorem Ip.no{l m:List jd}{p:Nat}(h:Ip l m p)(h1:p<l.length)(h2:p<m.length){x y:jd}(hx:l[p]=x)(hy:m[p]=y)(he:decide (keys x.l=keys y.l)=false):pK (ny l) (ny m)=p:=
 OH (by simpa using h.l1) (by simpa using h.l2) h.e fun _ _=>by
  rw[Um h1 hx,Um h2 hy]
  exact of_decide_eq_false he
structure AZ (l m:List jd) (p q:Nat):Prop where
 l1:q+p≤l.length
 l2:q+p≤m.length
 e:((ny l).drop p).reverse.take q=((ny m).drop p).reverse.take q
theorem AZ.zero{l m:List jd}{p:Nat}(h:Ip l m p):AZ l m p 0:=⟨by have:=h.l1; omega,by have:=h.l2; omega,rfl⟩
theorem AZ.at{l:List jd}{p q:Nat}{x:jd}(h:q+p<l.length)(hx:l[l.length-1-q]'(by omega)=x):∃h2:q<((ny l).drop p).reverse.length,((ny l).drop p).reverse[q]=x.key:=by
 obtain⟨h2,h3⟩:=rev_at (x:=ny l) (p:=p) (q:=q) (by simpa using h)
 refine⟨h2,h3.trans ?_⟩
 rw[List.getElem_map]
 simp only[List.length_map,hx]
theorem AZ.step{l m:List jd}{p q:Nat}(h:AZ l m p q)(h1:q+p<l.length)(h2:q+p<m.length){x y:jd}(hx:l[l.length-1-q]'(by omega)=x)(hy:m[m.length-1-q]'(by omega)=y)(he:decide (keys x.l=keys y.l)=true):AZ l m p (q+1):=by
 obtain⟨a1,a2⟩:=AZ.at h1 hx
 obtain⟨b1,b2⟩:=AZ.at h2 hy
 refine⟨by omega,by omega,?_⟩
 rw[List.take_succ_eq_append_getElem a1,List.take_succ_eq_append_getElem b1,h.e,a2,b2,show x.key=y.key from of_decide_eq_true he]
theorem AZ.full{l m:List jd}{p q:Nat}(h:AZ l m p q)(hp:pK (ny l) (ny m)=p)(hn:¬q+p<min l.length m.length):qK (ny l) (ny m)=q:=by
 unfold qK
 rw[hp]
 refine OH ?_ ?_ h.e fun hx hy=>?_
 ·have:=h.l1; simp; omega
 ·have:=h.l2; simp; omega
 ·simp at hx hy; omega
theorem AZ.no{l m:List jd}{p q:Nat}(h:AZ l m p q)(hp:pK (ny l) (ny m)=p)(h1:q+p<l.length)(h2:q+p<m.length){x y:jd}(hx:l[l.length-1-q]'(by omega)=x)(hy:m[m.length-1-q]'(by omega)=y)(he:decide (keys x.l=keys y.l)=false):qK (ny l) (ny m)=q:=by
 obtain⟨a1,a2⟩:=AZ.at h1 hx
 obtain⟨b1,b2⟩:=AZ.at h2 hy
 unfold qK
 rw[hp]
 refine OH ?_ ?_ h.e fun hx hy=>?_
 ·have:=h.l1; simp; omega
 ·have:=h.l2; simp; omega
 ·rw[a2,b2]; exact of_decide_eq_false he
end Go.Proofs.YtfmkkemfhjkajaaGreatDoor
end
