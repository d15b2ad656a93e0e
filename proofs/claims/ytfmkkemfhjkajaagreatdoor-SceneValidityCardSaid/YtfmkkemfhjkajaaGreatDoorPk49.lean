/- Reference 37: Children, Ancestors; the laws' ints. The -/
import Derived.Test.YtfmkkemfhjkajaaGreatDoorRfA
import Derived.Test.YtfmkkemfhjkajaaGreatDoorPk32
set_option linter.unusedVariables false
namespace Go.Proofs.YtfmkkemfhjkajaaGreatDoor
section
set_option maxHeartbeats 3200000
set_option maxRecDepth 100000
open Go.RowKit
variable{α:Type}{K:Nat}
theorem ae8{l m:List Nat}(h:l.length≠m.length):false=decide (l=m):=by
 have:l≠m:=fun e=>h (by rw[e])
 simp[this]
theorem adO{l m:List Nat}{k:Nat}(hk:l.length≤k)(h:l.length=m.length)(hR:l.take k=m.take k):true=decide (l=m):=by
 rw[List.take_of_length_le hk,List.take_of_length_le (by omega)]at hR
 simp[hR]
theorem abg{l m:List Nat}{k:Nat}(h1:k<l.length)(h2:k<m.length)(hR:l.take k=m.take k){x y:Nat}(hx:l[k]=x)(hy:m[k]=y)(h:((((x:Nat):Int)) != ((y:Nat):Int))=false):l.take (k+1)=m.take (k+1):=by
 have h3:x=y:=by simp at h; omega
 rw[List.take_succ_eq_append_getElem h1,List.take_succ_eq_append_getElem h2,hR,hx,hy,h3]
theorem ae9{l m:List Nat}{k:Nat}(h1:k<l.length)(h2:k<m.length){x y:Nat}(hx:l[k]=x)(hy:m[k]=y)(h:((((x:Nat):Int)) != ((y:Nat):Int))=true):false=decide (l=m):=by
 symm
 rw[decide_eq_false_iff_not]
 intro e
 subst e
 rw[hx]at hy
 subst hy
 simp at h
theorem adP{s:aS}{i:Int}(h:((((i) != -1)&&(!s.key.has i))||(!s.key.valid))=false):s.key.kids i=Gg s.ns.length (bP (keys s.ns)) i:=by
 simp only[Bool.or_eq_false_iff,Bool.and_eq_false_iff,Bool.not_eq_false',bne_eq_false_iff_eq]at h
 rcases h.1 with h1 | h1
 ·subst h1; exact abd h.2
 ·obtain⟨hv,q,rfl,hq⟩:=xk h1
  exact Zu hv hq
abbrev A8 (f:Nat→Int)(i:Int)(k:Nat):List Nat:=(List.range k).filter fun j=>iL f j==i
theorem Jm{f:Nat→Int}{i:Int}{k:Nat}:A8 f i (k+1)=A8 f i k++if iL f k=i then [k]else []:=by
 unfold A8
 rw[List.range_succ,List.filter_append]
 congr 1
 simp only[List.filter_cons,List.filter_nil,beq_iff_eq]
theorem Zv{f:Nat→Int}{i:Int}{k:Nat}:(A8 f i k).length≤k:=by
 have:=List.length_filter_le (fun j=>iL f j==i) (List.range k)
 simpa using this
theorem Zw{s:aS}{i:Int}(h:((((i) != -1)&&(!s.key.has i))||(!s.key.valid))=false):s.key.valid=true:=by
 simp only[Bool.or_eq_false_iff,Bool.not_eq_false']at h
 exact h.2
theorem abh{s:aP}{i:Int}(h:((((i) != -1)&&(!s.has i))||(!s.valid))=true):s.kids i=[]:=by unfold aP.kids; rw[if_pos h]
theorem Zx{f:Nat→Int}{d:Int}{q:Nat}(h:¬d<f q):oh f d (f q).toNat q=q:=by
 cases hm:(f q).toNat with
 | zero=>rfl
 | succ m=>show(if d<f q then _ else q)=q; rw[if_neg h]
theorem abj{n:Nat}{f:Nat→Int}(T:IsTree n f){d:Int}(h0:0≤d){q:Nat}(hq:q<n)(h:d<f q):∃j:Nat,iL f q=j∧j<q∧oh f d (f q).toNat q=oh f d (f j).toNat j:=by
 obtain⟨j,h1,h2,h3⟩:=T.KE hq (by omega)
 refine⟨j,h1,h2,?_⟩
 rw[show(f q).toNat=(f j).toNat+1 by have:=T.nn j (by omega); omega]
 show(if d<f q then oh f d (f j).toNat (iL f q).toNat else q)=_
 rw[if_pos h,h1,Int.toNat_natCast]
theorem GI{w:World}{v u:Value}{l m:List Nat}(h:aT 1 (fun n:Nat=>[jX n]) w v l)(h':aT 1 (fun n:Nat=>[jX n]) w u m) :
  Calls Tryz.prog 38 #[v,u] w fun e w'=>e = .returned (.bool (decide (l=m)))∧Ext w w':=by
 obtain⟨a,cap,rfl⟩:=h.shape
 obtain⟨d,cap',rfl⟩:=h'.shape
 have hmax:l.length≤9223372036854775807:=h.len
 refine aiK Tryz.func38 Tryz.ntmps38 fun ac S=>aiG fun _ aU=>adr S 1 [] [(4,.bool false)] fun ac S=>aiF<|aU _ _<|wp_seq_k fun _ fE=>aiG fun _ gW=>adr S 5 [] [(10,.bool ((((l.length:Nat):Int)) != ((m.length:Nat):Int)))] fun ac S=>aiF (gW _ _ ?_)
 refine aiI S (fun hc4=>?_) (fun hc4=>?_)
 ·refine aiG fun _ bV=>adr S 1 [] [(4,.bool false)] fun ac S=>aiF<|bV _ _<|Vp.rt ?_
  refine aiH S Tryz.results38 ?_
  exact⟨aB (ae8 (fun e=>by rw[e]at hc4; simp at hc4)),S.E⟩
 ·refine wp_skip<|fE _ _<|wp_seq_k fun _ iK=>aiG fun _ kC=>adr S 1 [] [(5,.int .i64 0)] fun ac S=>aiF<|kC _ _<|wp_block ?_
  refine Vp.loop (ι:=Nat) (fun p a' w'=>p≤l.length∧(l.take p=m.take p)∧Sx.St w a' w' 26 [(0,.slice a l.length cap),(1,.slice d m.length cap'),(4,.bool false),(5,.int .i64 ((p:Nat):Int))] [] []) (fun p=>l.length-p) (0) ⟨Nat.zero_le _,rfl,(S.sub [(0,.slice a l.length cap),(1,.slice d m.length cap'),(4,.bool false),(5,.int .i64 ((0:Nat):Int))]).aK⟩ ?_
  rintro k ac u hI
  try dsimp only at hI
  obtain⟨hk,hR,S⟩:=hI
  refine wp_seq_k fun _ dP=>aiG fun _ gB=>adr S 4 [] [(14,.bool (decide (((k:Nat):Int)<((l.length:Nat):Int))))] fun ac S=>aiF (gB _ _ ?_)
  refine aiI S (fun bY=>?_) (fun bY=>?_)
  ·refine wp_skip<|dP _ _<|wp_seq_k fun _ dB=>wp_block<|wp_seq_k (fun _ dw=>?_)
   have kF:k<l.length:=by have:=of_decide_eq_true bY; omega
   obtain⟨b14,S9,c16,hv,yX,um⟩:=Vp.aF h (fun _=>rfl) (k) kF
   simp only[Value.slice.injEq,true_and]at hv
   obtain⟨rfl,rfl⟩:=hv
   obtain⟨x20,lX⟩:∃z,l[k]=z:=⟨_,rfl⟩
   rw[lX]at um
   have S:=S.view0 yX um
   have jq:k<m.length:=by have:=jV hc4; have:=of_decide_eq_true bY; omega
   obtain⟨b22,Tc,c24,hv,Ac,uo⟩:=Vp.aF h' (fun _=>rfl) (k) jq
   simp only[Value.slice.injEq,true_and]at hv
   obtain⟨rfl,rfl⟩:=hv
   obtain⟨y28,kG⟩:∃z,m[k]=z:=⟨_,rfl⟩
   rw[kG]at uo
   have S:=S.view0 Ac uo
   refine aiO S 9 [.idx k l.length,.mem 1 0,.idx k m.length,.mem 0 0] [] [(25,.bool ((((x20:Nat):Int)) != ((y28:Nat):Int)))] trivial (hk:=⟨kF,jq,trivial⟩) fun ac u H7 S=>aiF (dw _ _ ?_)
   refine aiI S (fun rC=>?_) (fun rC=>?_)
   ·refine aiG fun _ qg=>adr S 1 [] [(4,.bool false)] fun ac S=>aiF<|qg _ _<|Vp.rt ?_
    refine aiH S Tryz.results38 ?_
    exact⟨aB (ae9 kF jq lX kG rC),S.E⟩
   ·refine wp_skip<|dB _ _<|Vp.region<|adr S 3 [.re 16 (.int .i64 (IntKind.i64.wrap (((k:Nat):Int)+1))) (.int .i64 (((k+1):Nat):Int))] [(5,.int .i64 (((k+1):Nat):Int))] (hk:=⟨aiR (by omega),trivial⟩) fun ac S=>aiF ?_
    show ∃i',_∧_
    exact⟨(k+1),⟨by omega,(abg kF jq hR lX kG rC),(S.sub [(0,.slice (some ⟨b14,S9,none⟩) l.length cap),(1,.slice (some ⟨b22,Tc,none⟩) m.length cap'),(4,.bool false),(5,.int .i64 (((k+1):Nat):Int))]).aK⟩,by show _-_<_-_; omega⟩
  ·refine wp_exit<|iK _ _<|aiG fun _ kM=>adr S 1 [] [(4,.bool true)] fun ac S=>aiF<|kM _ _<|Vp.rt ?_
   refine aiH S Tryz.results38 ?_
   exact⟨aB (adO (by have:=of_decide_eq_false bY; omega) (jV hc4) hR),S.E⟩
theorem xq{w:World}{s:aS}(h:bW K w s)(i:Int) :
  Calls Tryz.prog 40 #[s.v,.int .i64 i] w fun e w'=>∃v,e = .returned v∧RN w.heap.size w' v (s.key.kids i)∧Ext w w':=by
 have hmax:s.ns.length≤9223372036854775807:=h.2.2.1.len
 refine aiK Tryz.func40 Tryz.ntmps40 fun ac S=>aiG fun _ aU=>aiJ S 2 s.cells fun ac u b2 E3 hb4 S=>adr S 1 [] [(4,.slice none 0 0)] fun ac S=>aiF<|aU _ _<|aiG (fun _ bV=>?_)
 have R:=Sx.Rw.nil S
 refine Sx.newRow S R 7 0 3 1 [] (fun ac u v6 E7 X8 R S=>?_)
 obtain⟨a7,c7,e7⟩:=Sx.kW (R.own _ List.mem_cons_self)
 refine adr S 1 [] [(5,v6)] fun ac S=>aiF<|bV _ _<|wp_seq_k fun _ gB=>aiG fun _ dV=>aiT S 13 [.mem 0 0,.mem 0 0] [(_,_,((i) != -1),.bool (s.key.has i)),(_,_,(!(((i) != -1)&&(!(s.key.has i)))),.bool s.key.valid)] [(20,.bool ((((i) != -1)&&(!(s.key.has i)))||(!s.key.valid)))] ⟨fun u hC g=>tu (h.below (Ext.trans' S.E hC)) i,fun u hC g=>xu (h.below (Ext.trans' S.E hC)),trivial⟩ fun ac u sF S=>aiF (dV _ _ ?_)
 refine aiI S (fun hc12=>?_) (fun hc12=>?_)
 ·refine aiG fun _ fZ=>adr S 2 [] [(4,v6)] fun ac S=>aiF<|fZ _ _<|Vp.rt ?_
  obtain⟨R,Y14⟩:=R.eH S (Sx.Stp.ext sF)
  refine aiH S Tryz.results40 ?_
  exact⟨_,rfl,by rw[abh hc12]; exact R.own _ List.mem_cons_self,S.E⟩
 ·refine wp_skip<|gB _ _<|wp_seq_k fun _ fH=>aiG (fun _ iR=>?_)
  have hv:=Zw hc12
  have hsl:=Jl hv
  refine adr S 1 [] [(6,.int .i64 0)] fun ac S=>aiF<|iR _ _<|wp_block ?_
  obtain⟨R,Y17⟩:=R.eH S (Sx.Stp.ext sF)
  refine Vp.loop (ι:=Nat×Value) (fun p a' w'=>p.1≤s.ns.length∧(True)∧Sx.Rw w w' [(b2,s.cells)] [⟨3,1,p.2,(A8 (bP (keys s.ns)) i p.1).length,(A8 (bP (keys s.ns)) i p.1).map jX⟩]∧Sx.St w a' w' 40 [(0,s.v),(1,.int .i64 i),(2,.pointer (some ⟨b2,0,none⟩)),(4,.slice none 0 0),(5,p.2),(6,.int .i64 ((p.1:Nat):Int))] [(b2,s.cells)] []) (fun p=>s.ns.length-p.1) (0,v6) ⟨Nat.zero_le _,trivial,R,(S.sub [(0,s.v),(1,.int .i64 i),(2,.pointer (some ⟨b2,0,none⟩)),(4,.slice none 0 0),(5,v6),(6,.int .i64 ((0:Nat):Int))]).aK⟩ ?_
  rintro⟨k,v⟩ ac u hI
  try dsimp only at hI
  obtain⟨hk,hR,R,S⟩:=hI
  refine wp_seq_k fun _ je=>aiG fun _ jf=>adr S 5 [.mem 0 6] [(26,.bool (decide (((k:Nat):Int)<((s.ns.length:Nat):Int))))] fun ac S=>aiF (jf _ _ ?_)
  refine aiI S (fun rY=>?_) (fun rY=>?_)
  ·refine wp_skip<|je _ _<|wp_seq_k fun _ jo=>wp_block<|aiG fun _ jM=>adr S 3 [.mem 0 6] [(30,s.s),(31,.int .i64 ((k:Nat):Int))] (fun ac S=>?_)
   have hk1:k<s.ns.length:=by have:=of_decide_eq_true rY; omega
   refine aiM S 32 (vP (h.2.2.1.below S.E) hk1 (lD hv hk1) rfl) fun ac u JA S=>adr S 2 [] [(34,.bool (((iL (bP (keys s.ns)) k))==i))] fun ac S=>aiF (jM _ _ ?_)
   refine aiI S (fun hc24=>?_) (fun hc24=>?_)
   ·refine Vp.region<|adr S 2 [] [(35,v),(36,.int .i64 ((k:Nat):Int))] fun ac S=>Sx.news S 37 1 [.int .i64 ((k:Nat):Int)] (fun ac u b25 E26 Dw S=>?_)
    have hkl:=Zv (f:=(bP (keys s.ns))) (i:=i) (k:=k)
    obtain⟨R,Y28⟩:=R.eH S (Sx.Stp.trans (Sx.Stp.ext JA) (Sx.Stp.NJ E26 Dw))
    refine Sx.app S R 0 38 rfl LW (Sx.Fv (m:=1) (k:=1) (A:=[.int .i64 ((k:Nat):Int)]) (S.bx 0)) (by show(A8 (bP (keys s.ns)) i k).length+1≤9223372036854775807; omega) (by show((A8 (bP (keys s.ns)) i k).length+1)*8≤140737488355328; omega) fun ac u v29 X30 R S=>adr S 1 [] [(5,v29)] fun ac S=>aiF<|jo _ _<|Vp.region<|adr S 3 [.re 28 (.int .i64 (IntKind.i64.wrap (((k:Nat):Int)+1))) (.int .i64 (((k+1):Nat):Int))] [(6,.int .i64 (((k+1):Nat):Int))] (hk:=⟨aiR (by omega),trivial⟩) fun ac S=>aiF ?_
    have S:=S.uD 1
    obtain⟨R,Y31⟩:=R.eH S (Sx.Stp.Fq 1)
    show ∃i',_∧_
    exact⟨((k+1),v29),⟨by omega,trivial,R.as (show [(⟨3,1,v29,(A8 (bP (keys s.ns)) i k).length+1,(A8 (bP (keys s.ns)) i k).map jX++[jX k]⟩:Sx.Row)]=[⟨3,1,v29,(A8 (bP (keys s.ns)) i (k+1)).length,(A8 (bP (keys s.ns)) i (k+1)).map jX⟩] by rw[Jm,if_pos (by simpa using hc24)]; simp),(S.sub [(0,s.v),(1,.int .i64 i),(2,.pointer (some ⟨b2,0,none⟩)),(4,.slice none 0 0),(5,v29),(6,.int .i64 (((k+1):Nat):Int))]).aK⟩,by show _-_<_-_; omega⟩
   ·refine wp_skip<|jo _ _<|Vp.region<|adr S 3 [.re 28 (.int .i64 (IntKind.i64.wrap (((k:Nat):Int)+1))) (.int .i64 (((k+1):Nat):Int))] [(6,.int .i64 (((k+1):Nat):Int))] (hk:=⟨aiR (by omega),trivial⟩) fun ac S=>aiF ?_
    obtain⟨R,Y32⟩:=R.eH S (Sx.Stp.ext JA)
    show ∃i',_∧_
    exact⟨((k+1),v),⟨by omega,trivial,R.as (congrArg (fun l:List Nat=>[(⟨3,1,v,l.length,l.map jX⟩:Sx.Row)]) (show(A8 (bP (keys s.ns)) i k)=(A8 (bP (keys s.ns)) i (k+1)) by rw[Jm,if_neg (by simpa using hc24),List.append_nil])),(S.sub [(0,s.v),(1,.int .i64 i),(2,.pointer (some ⟨b2,0,none⟩)),(4,.slice none 0 0),(5,v),(6,.int .i64 (((k+1):Nat):Int))]).aK⟩,by show _-_<_-_; omega⟩
  ·refine wp_exit<|fH _ _<|aiG fun _ lW=>adr S 2 [] [(4,v)] fun ac S=>aiF<|lW _ _<|Vp.rt ?_
   obtain rfl:k=s.ns.length:=by have:=of_decide_eq_false rY; omega
   refine aiH S Tryz.results40 ?_
   exact⟨_,rfl,by rw[adP hc12]; exact R.own _ List.mem_cons_self,S.E⟩
theorem DL{w:World}{s:aS}(h:bW K w s)(i:Int) :
  Calls Tryz.prog 42 #[s.v,.int .i64 i] w fun e w'=>∃v,e = .returned v∧RN w.heap.size w' v (s.key.Xr i)∧Ext w w':=by
 skip
 refine aiK Tryz.func42 Tryz.ntmps42 (fun ac S=>?_)
 obtain⟨a,cap,es⟩:∃a c,s.s = .slice a s.ns.length c:=⟨_,_,rfl⟩
 have hr:=h.2.2.1
 rw[es]at hr
 refine aiG fun _ aU=>aiJ S 2 s.cells fun ac u b2 E3 hb4 S=>adr S 1 [] [(4,.slice none 0 0)] fun ac S=>aiF<|aU _ _<|aiG (fun _ bV=>?_)
 have R:=Sx.Rw.nil S
 refine Sx.newRow S R 8 0 3 1 [] fun ac u v6 E7 X8 R S=>adr S 1 [] [(5,v6)] fun ac S=>aiF<|bV _ _<|wp_seq_k fun _ gB=>aiG fun _ dV=>adr S 2 [.mem 0 0] [(9,s.v),(10,.int .i64 i)] fun ac S=>aiM S 11 (tu (h.below S.E) i) fun ac u sF S=>adr S 1 [] [(12,.bool (!(s.key.has i)))] fun ac S=>aiF (dV _ _ ?_)
 refine aiI S (fun hc12=>?_) (fun hc12=>?_)
 ·refine aiG fun _ fZ=>adr S 2 [] [(4,v6)] fun ac S=>aiF<|fZ _ _<|Vp.rt ?_
  obtain⟨R,Y14⟩:=R.eH S (Sx.Stp.ext sF)
  refine aiH S Tryz.results42 ?_
  exact⟨_,rfl,by unfold aP.Xr; rw[if_neg (by simpa using hc12)]; exact R.own _ List.mem_cons_self,S.E⟩
 ·refine wp_skip<|gB _ _<|wp_seq_k fun _ fH=>aiG (fun _ iR=>?_)
  have hh:s.key.has i=true:=by simpa using hc12
  obtain⟨hv,q,rfl,hq⟩:=xk hh
  have T:=Gz hv
  have hq8:0≤(bP (keys s.ns)) q∧(bP (keys s.ns)) q<8:=by rw[dK hq]; exact lD hv hq
  refine adr S 1 [] [(6,.int .i64 0)] fun ac S=>aiF<|iR _ _<|wp_block ?_
  obtain⟨R,Y17⟩:=R.eH S (Sx.Stp.ext sF)
  refine Vp.loop (ι:=Nat×Value) (fun p a' w'=>(p.1≤((bP (keys s.ns)) q).toNat+1)∧Sx.Rw w w' [(b2,s.cells)] [⟨3,1,p.2,p.1,((List.range p.1).map (fun e:Nat=>oh (bP (keys s.ns)) e ((bP (keys s.ns)) q).toNat q)).map jX⟩]∧Sx.St w a' w' 42 [(0,s.v),(1,.int .i64 ((q:Nat):Int)),(2,.pointer (some ⟨b2,0,none⟩)),(4,.slice none 0 0),(5,p.2),(6,.int .i64 ((p.1:Nat):Int))] [(b2,s.cells)] []) (fun p=>((bP (keys s.ns)) q).toNat+1-p.1) (0,v6) ⟨Nat.zero_le _,R,(S.sub [(0,s.v),(1,.int .i64 ((q:Nat):Int)),(2,.pointer (some ⟨b2,0,none⟩)),(4,.slice none 0 0),(5,v6),(6,.int .i64 ((0:Nat):Int))]).aK⟩ ?_
  rintro⟨d,v⟩ ac u hI
  try dsimp only at hI
  obtain⟨hR,R,S⟩:=hI
  refine wp_seq_k fun _ je=>aiG (fun _ jf=>?_)
  have vZ:q<s.ns.length:=hq
  obtain⟨b20,o21,Hy,hv,Dw,ED⟩:=Vp.aF hr (fun _=>rfl) (q) vZ
  simp only[Value.slice.injEq,true_and]at hv
  obtain⟨rfl,rfl⟩:=hv
  obtain⟨IL,hx24⟩:∃z,s.ns[q]=z:=⟨_,rfl⟩
  rw[hx24]at ED
  have hdq:(bP (keys s.ns)) q=IL.depth:=by rw[dK hq,hx24]
  have S:=S.view0 Dw ED
  refine adr S 8 [.mem 0 6,.re 16 s.s (.slice (some ⟨b20,o21,none⟩) s.ns.length cap),.idx q s.ns.length,.mem 1 2] [(21,.bool (decide (((d:Nat):Int)≤IL.depth)))] (hk:=⟨es,vZ,trivial⟩) fun ac S=>aiF (jf _ _ ?_)
  refine aiI S (fun hc28=>?_) (fun hc28=>?_)
  ·refine wp_skip<|je _ _<|wp_seq_k fun _ qm=>wp_block<|aiG fun _ nI=>adr S 2 [] [(7,.int .i64 ((q:Nat):Int))] fun ac S=>aiF<|nI _ _<|wp_seq_k fun _ qg=>wp_block ?_
   have hcd:=hc28
   refine Vp.loop (ι:=Nat) (fun p a' w'=>(p<s.ns.length∧oh (bP (keys s.ns)) d ((bP (keys s.ns)) q).toNat q=oh (bP (keys s.ns)) d ((bP (keys s.ns)) p).toNat p)∧Sx.Rw w w' [(b2,s.cells)] [⟨3,1,v,d,((List.range d).map (fun e:Nat=>oh (bP (keys s.ns)) e ((bP (keys s.ns)) q).toNat q)).map jX⟩]∧Sx.St w a' w' 42 [(0,s.v),(1,.int .i64 ((q:Nat):Int)),(2,.pointer (some ⟨b2,0,none⟩)),(4,.slice none 0 0),(5,v),(6,.int .i64 ((d:Nat):Int)),(7,.int .i64 ((p:Nat):Int))] [(b2,s.cells)] []) (fun p=>p) (q) ⟨⟨hq,rfl⟩,R,(S.sub [(0,s.v),(1,.int .i64 ((q:Nat):Int)),(2,.pointer (some ⟨b2,0,none⟩)),(4,.slice none 0 0),(5,v),(6,.int .i64 ((d:Nat):Int)),(7,.int .i64 ((q:Nat):Int))]).aK⟩ ?_
   rintro j ac u hI
   try dsimp only at hI
   obtain⟨hR,R,S⟩:=hI
   have hR':=hR
   refine wp_seq_k fun _ kM=>aiG (fun _ lW=>?_)
   have afa:j<s.ns.length:=hR'.1
   obtain⟨LC,o35,c36,hv,aeI,afb⟩:=Vp.aF hr (fun _=>rfl) (j) afa
   simp only[Value.slice.injEq,Option.some.injEq,Addr.mk.injEq,true_and,and_true]at hv
   obtain⟨⟨rfl,rfl⟩,rfl⟩:=hv
   obtain⟨x40,hx38⟩:∃z,s.ns[j]=z:=⟨_,rfl⟩
   rw[hx38]at afb
   have S:=S.view0 aeI afb
   refine adr S 8 [.mem 0 6,.re 26 s.s (.slice (some ⟨b20,o21,none⟩) s.ns.length cap),.idx j s.ns.length,.mem 1 2] [(32,.bool (decide (((d:Nat):Int)<x40.depth)))] (hk:=⟨es,afa,trivial⟩) fun ac S=>aiF (lW _ _ ?_)
   refine aiI S (fun adQ=>?_) (fun adQ=>?_)
   ·refine wp_skip<|kM _ _<|wp_block<|Vp.region<|adr S 3 [.mem 0 6,.re 34 s.s (.slice (some ⟨b20,o21,none⟩) s.ns.length cap)] [(34,.slice (some ⟨b20,o21,none⟩) s.ns.length cap),(35,.int .i64 ((j:Nat):Int))] (fun ac S=>?_) (hk:=⟨es,trivial⟩)
    obtain⟨jn,hpj,hjq,hja⟩:=abj T (by omega:(0:Int)≤((d:Nat):Int)) hR'.1 (by rw[dK hR'.1,hx38]; exact of_decide_eq_true adQ)
    refine aiM S 36 (jO (vP (hr.below S.E) hR'.1 (lD hv hR'.1) rfl) (congrArg (Value.int .i64) hpj)) fun ac u E43 S=>adr S 1 [] [(7,.int .i64 ((jn:Nat):Int))] fun ac S=>aiF ?_
    obtain⟨R,Y44⟩:=R.eH S (Sx.Stp.ext E43)
    show ∃i',_∧_
    exact⟨jn,⟨⟨by have:=hR'.1; omega,hR'.2.trans hja⟩,R,(S.sub [(0,s.v),(1,.int .i64 ((q:Nat):Int)),(2,.pointer (some ⟨b2,0,none⟩)),(4,.slice none 0 0),(5,v),(6,.int .i64 ((d:Nat):Int)),(7,.int .i64 ((jn:Nat):Int))]).aK⟩,by show jn<j; omega⟩
   ·refine wp_exit<|qg _ _ ?_
    have hfin:oh (bP (keys s.ns)) d ((bP (keys s.ns)) q).toNat q=j:=hR'.2.trans (Zx (by rw[dK hR'.1,hx38]; exact of_decide_eq_false adQ))
    refine Vp.region<|adr S 2 [] [(37,v),(38,.int .i64 ((j:Nat):Int))] fun ac S=>Sx.news S 39 1 [.int .i64 ((j:Nat):Int)] (fun ac u b45 E46 ahm S=>?_)
    obtain⟨R,Y48⟩:=R.eH S (Sx.Stp.NJ E46 ahm)
    refine Sx.app S R 0 40 rfl LW (Sx.Fv (m:=1) (k:=1) (A:=[.int .i64 ((j:Nat):Int)]) (S.bx 0)) (by show d+1≤9223372036854775807; omega) (by show(d+1)*8≤140737488355328; omega) fun ac u v49 X50 R S=>adr S 1 [] [(5,v49)] fun ac S=>aiF<|qm _ _<|Vp.region<|adr S 3 [.re 23 (.int .i64 (IntKind.i64.wrap (((d:Nat):Int)+1))) (.int .i64 (((d+1):Nat):Int))] [(6,.int .i64 (((d+1):Nat):Int))] (hk:=⟨aiR (by omega),trivial⟩) fun ac S=>aiF ?_
    have S:=S.uD 1
    obtain⟨R,Y51⟩:=R.eH S (Sx.Stp.Fq 1)
    show ∃i',_∧_
    exact⟨((d+1),v49),⟨by have:=of_decide_eq_true hcd; omega,R.as (show [(⟨3,1,v49,d+1,((List.range d).map (fun e:Nat=>oh (bP (keys s.ns)) e ((bP (keys s.ns)) q).toNat q)).map jX++[jX j]⟩:Sx.Row)]=[⟨3,1,v49,d+1,((List.range (d+1)).map (fun e:Nat=>oh (bP (keys s.ns)) e ((bP (keys s.ns)) q).toNat q)).map jX⟩] by rw[List.range_succ,List.map_append,List.map_append,List.map_singleton,List.map_singleton,show oh (bP (keys s.ns)) d ((bP (keys s.ns)) q).toNat q=j from hfin]),(S.sub [(0,s.v),(1,.int .i64 ((q:Nat):Int)),(2,.pointer (some ⟨b2,0,none⟩)),(4,.slice none 0 0),(5,v49),(6,.int .i64 (((d+1):Nat):Int))]).aK⟩,by show _-_<_-_; have:=of_decide_eq_true hcd; omega⟩
  ·refine wp_exit<|fH _ _<|aiG fun _ U3=>adr S 2 [] [(4,v)] fun ac S=>aiF<|U3 _ _<|Vp.rt ?_
   obtain rfl:d=((bP (keys s.ns)) q).toNat+1:=by have:=of_decide_eq_false hc28; omega
   refine aiH S Tryz.results42 ?_
   exact⟨_,rfl,by unfold aP.Xr; rw[if_pos hh,Int.toNat_natCast,show s.key.ns=keys s.ns from rfl,T.Gh 8 q hq hq8.2]; have:=R.own _ List.mem_cons_self; unfold RN; rw[List.length_map,List.length_range]; exact this,S.E⟩
end
section
set_option maxHeartbeats 3200000
set_option maxRecDepth 100000
open Go.RowKit
variable{α:Type}{K:Nat}
theorem KP{w:World}{s:aS}{n:Int}(h:s.few n=true)(ho:s.ok w):bW 20 w s∧(∀n∈s.ns,n.lim):=⟨(MI h ho.1 ho.2.1 ho.2.2).1,(MI h ho.1 ho.2.1 ho.2.2).2.1⟩
theorem BX{w w':World}{v:Value}{l:List Nat}(h:aT 1 (fun n:Nat=>[jX n]) w v l)(hE:Ext w w'):aT 1 (fun n:Nat=>[jX n]) w' v l:=h.below hE
theorem Au{w:World}{s t:aS}(h:s.ok w)(h':t.ok w)(hg:jE w) :
  Calls Tryz.prog 4 #[s.v,t.v] w fun r w'=>r = .returned (.bool true)∧Ext w w':=by
 skip
 refine aiK Tryz.func4 Tryz.ntmps4 fun ac S=>aiG fun _ aU=>aiJ S 2 s.cells fun ac u b2 E3 hb4 S=>aiJ S 3 t.cells fun ac u b5 E6 hb7 S=>adr S 1 [] [(4,.bool false)] fun ac S=>aiF<|aU _ _<|wp_seq_k fun _ dP=>aiG fun _ gB=>adr S 1 [.mem 1 0] [(9,s.v)] fun ac S=>aiM S 10 (BD ⟨(h.2.2.1.below S.E),fun n hn=>(h.2.2.2 n hn).below S.E⟩ 70) fun ac u Bj S=>aiT S 6 [.mem 0 0] [(_,_,(!(!(s.few 70))),.bool (t.few 70))] [(16,.bool ((!(s.few 70))||(!(t.few 70))))] ⟨fun u hC g=>BD ⟨(h'.2.2.1.below (Ext.trans' S.E hC)),fun n hn=>(h'.2.2.2 n hn).below (Ext.trans' S.E hC)⟩ 70,trivial⟩ fun ac u sF S=>aiF (gB _ _ ?_)
 refine aiI S (fun hc12=>?_) (fun hc12=>?_)
 ·refine aiG fun _ fZ=>aiM S 17 (kZ (hg.below S.E)) fun ac u Ei S=>adr S 1 [] [(4,.bool true)] fun ac S=>aiF<|fZ _ _<|Vp.rt ?_
  refine aiH S Tryz.results4 ?_
  exact⟨rfl,S.E⟩
 ·refine wp_skip<|dP _ _<|aiG (fun _ fH=>?_)
  have hcc:s.few 70=true∧t.few 70=true:=by simpa using hc12
  have hs:=KP hcc.1 h
  have ht:=KP hcc.2 h'
  refine adr S 1 [.mem 1 0] [(19,s.v)] fun ac S=>aiM S 20 (sN (K:=20) (hs.1.below S.E) (hg.below S.E)) fun ac u Pz S=>adr S 5 [] [(5,.int .i64 s.key.chk.1),(6,.int .i64 s.key.chk.2)] fun ac S=>aiF<|fH _ _<|aiG fun _ ig=>adr S 1 [.mem 1 0] [(24,s.v)] fun ac S=>aiM S 25 (Dk (K:=20) (hs.1.below S.E)) fun ac u JD S=>adr S 5 [] [(7,.int .i64 s.key.chk.1),(8,.int .i64 s.key.chk.2)] fun ac S=>aiF<|ig _ _<|wp_seq_k fun _ jf=>aiO S 32 [.re 30 (.bool ((s.key.chk.1)==s.key.chk.1)) (.bool true),.re 34 (.bool ((s.key.chk.2)==s.key.chk.2)) (.bool true),.mem 1 0,.re 41 (.bool (s.key.valid==((s.key.chk.1)==0))) (.bool true),.mem 1 0,.mem 0 0,.mem 1 0,.mem 0 0,.re 50 (.bool ((decide (s.key=t.key))==(decide (s.key=t.key)))) (.bool true),.mem 1 0,.mem 1 0] [(_,_,true,.bool s.key.valid),(_,_,true,.bool (decide (s.key=t.key))),(_,_,true,.bool (decide (s.key=t.key))),(_,_,true,.bool true),(_,_,true,.bool true)] [(59,.bool true)] ⟨fun u hC g=>mO (K:=20) (hs.1.below (Ext.trans' S.E hC)) (hg.below (Ext.trans' S.E hC)),fun u hC g=>Dl (K:=20) (hs.1.below (Ext.trans' S.E hC)) (ht.1.below (Ext.trans' S.E hC)),fun u hC g=>OI (K:=20) (hs.1.below (Ext.trans' S.E hC)) (ht.1.below (Ext.trans' S.E hC)),fun u hC g=>jO (Dl (K:=20) (hs.1.below (Ext.trans' S.E hC)) (hs.1.below (Ext.trans' S.E hC))) (show Value.bool (decide (s.key=s.key)) = .bool true by simp),fun u hC g=>kZ (hg.below (Ext.trans' S.E hC)),trivial⟩ (hk:=⟨(congrArg Value.bool (by simp)),(congrArg Value.bool (by simp)),(congrArg Value.bool (by unfold aP.valid; simp)),(congrArg Value.bool (by simp)),trivial⟩) fun ac u Iz S=>adr S 1 [] [(4,.bool true)] fun ac S=>aiF<|jf _ _<|Vp.rt ?_
  refine aiH S Tryz.results4 ?_
  exact⟨rfl,S.E⟩
theorem wP{w:World}{s:aS}(h:s.ok w){i id:Int}(hi:I64 i)(hd:I64 id)(hg:jE w) :
  Calls Tryz.prog 9 #[s.v,.int .i64 i,.int .i64 id] w fun r w'=>r = .returned (.bool true)∧Ext w w':=by
 skip
 refine aiK Tryz.func9 Tryz.ntmps9 fun ac S=>aiG fun _ aU=>aiJ S 3 s.cells fun ac u b2 E3 hb4 S=>adr S 1 [] [(6,.bool false)] fun ac S=>aiF<|aU _ _<|wp_seq_k fun _ bV=>aiG fun _ iK=>adr S 1 [.mem 0 0] [(7,s.v)] fun ac S=>aiM S 8 (BD ⟨(h.2.2.1.below S.E),fun n hn=>(h.2.2.2 n hn).below S.E⟩ 12) fun ac u E7 S=>adr S 1 [] [(9,.bool (!(s.few 12)))] fun ac S=>aiF (iK _ _ ?_)
 refine aiI S (fun hc8=>?_) (fun hc8=>?_)
 ·refine aiG fun _ gB=>aiM S 10 (kZ (hg.below S.E)) fun ac u Bj S=>adr S 1 [] [(6,.bool true)] fun ac S=>aiF<|gB _ _<|Vp.rt ?_
  refine aiH S Tryz.results9 ?_
  exact⟨rfl,S.E⟩
 ·refine wp_skip<|bV _ _<|wp_seq_k (fun _ dB=>?_)
  have hcc:s.few 12=true:=by simpa using hc8
  have hs:=KP hcc h
  refine aiV S 53 [(39,fun v w1=>aT 1 (fun n:Nat=>[jX n]) w1 v (s.key.kids i)),(42,fun v w1=>aT 1 (fun n:Nat=>[jX n]) w1 v (s.key.kids i)),(47,fun v w1=>aT 1 (fun n:Nat=>[jX n]) w1 v (s.key.kids (-1))),(49,fun v w1=>aT 1 (fun n:Nat=>[jX n]) w1 v (s.key.kids (-1))),(55,fun v w1=>aT 1 (fun n:Nat=>[jX n]) w1 v (s.key.Xr i)),(58,fun v w1=>aT 1 (fun n:Nat=>[jX n]) w1 v (s.key.Xr i))] (fun r=>[.mem 0 0,.mem 0 0,.re 17 (.bool (((s.key.index id))==(s.key.index id))) (.bool true),.mem 0 0,.mem 0 0,.re 25 (.bool (((s.key.endOf i))==(s.key.endOf i))) (.bool true),.mem 0 0,.mem 0 0,.re 34 (.bool (((s.key.sJ i))==(s.key.sJ i))) (.bool true),.mem 0 0,.mem 0 0,.mem 0 0,.mem 0 0,.mem 0 0,.mem 0 0]) (fun x=>[.int .i64 (s.key.index id),.int .i64 (s.key.index id),.int .i64 (s.key.endOf i),.int .i64 (s.key.endOf i),.int .i64 (s.key.sJ i),.int .i64 (s.key.sJ i),x 39,x 42,.bool true,x 47,x 49,.bool true,x 55,x 58,.bool true,.bool true]) (fun x=>[(_,_,true,.int .i64 (s.key.index id),13),(_,_,true,.int .i64 (s.key.index id),16),(_,_,true,.int .i64 (s.key.endOf i),21),(_,_,true,.int .i64 (s.key.endOf i),24),(_,_,true,.int .i64 (s.key.sJ i),30),(_,_,true,.int .i64 (s.key.sJ i),33),(_,_,true,x 39,39),(_,_,true,x 42,42),(_,_,true,.bool true,43),(_,_,true,x 47,47),(_,_,true,x 49,49),(_,_,true,.bool true,50),(_,_,true,x 55,55),(_,_,true,x 58,58),(_,_,true,.bool true,59),(_,_,true,.bool true,62)]) [[],[],[],[],[],[],[],[],[39,42],[],[],[47,49],[],[],[55,58],[]] (fun x=>[(63,.bool true)]) ⟨fun v w1 w2 kk h=>BX (l:=s.key.kids i) h kk,fun v w1 w2 kk h=>BX (l:=s.key.kids i) h kk,fun v w1 w2 kk h=>BX (l:=s.key.kids (-1)) h kk,fun v w1 w2 kk h=>BX (l:=s.key.kids (-1)) h kk,fun v w1 w2 kk h=>BX (l:=s.key.Xr i) h kk,fun v w1 w2 kk h=>BX (l:=s.key.Xr i) h kk,trivial⟩ (fun x=>⟨by intro u hC g F; exact(CJ (K:=20) (s:=s) (hs.1.below (Ext.trans' S.E hC)) (hg.below (Ext.trans' S.E hC)) id).mono fun e w2 h=>⟨_,h.1,rfl,h.2⟩,by intro u hC g F; exact(OJ (K:=20) (s:=s) (hs.1.below (Ext.trans' S.E hC)) id).mono fun e w2 h=>⟨_,h.1,rfl,h.2⟩,by intro u hC g F; exact(CB (K:=20) (s:=s) (hs.1.below (Ext.trans' S.E hC)) (hg.below (Ext.trans' S.E hC)) i).mono fun e w2 h=>⟨_,h.1,rfl,h.2⟩,by intro u hC g F; exact(OL (K:=20) (s:=s) (hs.1.below (Ext.trans' S.E hC)) i).mono fun e w2 h=>⟨_,h.1,rfl,h.2⟩,by intro u hC g F; exact(CG (K:=20) (s:=s) (hs.1.below (Ext.trans' S.E hC)) (hg.below (Ext.trans' S.E hC)) i).mono fun e w2 h=>⟨_,h.1,rfl,h.2⟩,by intro u hC g F; exact(OM (K:=20) (s:=s) (hs.1.below (Ext.trans' S.E hC)) i).mono fun e w2 h=>⟨_,h.1,rfl,h.2⟩,by intro u hC g F; exact(xg (K:=20) (s:=s) (hs.1.below (Ext.trans' S.E hC)) (hg.below (Ext.trans' S.E hC)) i).mono fun e w2 h=>by obtain⟨v,rfl,ho,hb⟩:=h; exact⟨_,rfl,ni ho,hb⟩,by intro u hC g F; exact(xq (K:=20) (s:=s) (hs.1.below (Ext.trans' S.E hC)) i).mono fun e w2 h=>by obtain⟨v,rfl,ho,hb⟩:=h; exact⟨_,rfl,ni ho,hb⟩,by intro u hC g F; obtain⟨F39,F42,-⟩:=F; exact(jO (GI F39 F42) (show Value.bool (decide ((s.key.kids i)=s.key.kids i)) = .bool true by simp)).mono fun e w2 h=>⟨_,h.1,rfl,h.2⟩,by intro u hC g F; exact(xg (K:=20) (s:=s) (hs.1.below (Ext.trans' S.E hC)) (hg.below (Ext.trans' S.E hC)) (-1)).mono fun e w2 h=>by obtain⟨v,rfl,ho,hb⟩:=h; exact⟨_,rfl,ni ho,hb⟩,by intro u hC g F; exact(xq (K:=20) (s:=s) (hs.1.below (Ext.trans' S.E hC)) (-1)).mono fun e w2 h=>by obtain⟨v,rfl,ho,hb⟩:=h; exact⟨_,rfl,ni ho,hb⟩,by intro u hC g F; obtain⟨F47,F49,-⟩:=F; exact(jO (GI F47 F49) (show Value.bool (decide ((s.key.kids (-1))=s.key.kids (-1))) = .bool true by simp)).mono fun e w2 h=>⟨_,h.1,rfl,h.2⟩,by intro u hC g F; exact(DK (K:=20) (s:=s) (hs.1.below (Ext.trans' S.E hC)) (hg.below (Ext.trans' S.E hC)) i).mono fun e w2 h=>by obtain⟨v,rfl,ho,hb⟩:=h; exact⟨_,rfl,ni ho,hb⟩,by intro u hC g F; exact(DL (K:=20) (s:=s) (hs.1.below (Ext.trans' S.E hC)) i).mono fun e w2 h=>by obtain⟨v,rfl,ho,hb⟩:=h; exact⟨_,rfl,ni ho,hb⟩,by intro u hC g F; obtain⟨RU,F58,-⟩:=F; exact(jO (GI RU F58) (show Value.bool (decide ((s.key.Xr i)=s.key.Xr i)) = .bool true by simp)).mono fun e w2 h=>⟨_,h.1,rfl,h.2⟩,by intro u hC g F; exact(kZ (hg.below (Ext.trans' S.E hC))).mono fun e w2 h=>⟨_,h.1,rfl,h.2⟩,trivial⟩) (fun ac u x H6 F S=>?_) (hk:=fun r=>⟨(congrArg Value.bool (by simp)),(congrArg Value.bool (by simp)),(congrArg Value.bool (by simp)),trivial⟩)
  obtain⟨F39,F42,F47,F49,RU,F58,-⟩:=F
  clear F39
  clear F42
  clear F47
  clear F49
  clear RU
  clear F58
  refine adr S 1 [] [(6,.bool true)] fun ac S=>aiF<|dB _ _<|Vp.rt ?_
  refine aiH S Tryz.results9 ?_
  exact⟨rfl,S.E⟩
end
end Go.Proofs.YtfmkkemfhjkajaaGreatDoor
