/- Equality of nodes: the references. -/
import Derived.Test.YtfmkkemfhjkajaaGreatDoorPk29
set_option maxHeartbeats 3200000
set_option maxRecDepth 100000
namespace Go.Proofs.YtfmkkemfhjkajaaGreatDoor
open Go.RowKit
variable{α:Type}{K:Nat}
set_option linter.unusedVariables false
theorem Aa{w:World}{v u:Value}{l m:List dW}(h:aT 7 dW.cells w v l)(h':aT 7 dW.cells w u m) :
  Calls Tryz.prog 63 #[v,u] w fun e w'=>e = .returned (.bool (decide (l=m)))∧Ext w w':=by
 obtain⟨a,cap,rfl⟩:=h.shape
 obtain⟨d,cap',rfl⟩:=h'.shape
 have hmax:l.length≤9223372036854775807:=h.len
 refine aiK Tryz.func63 Tryz.ntmps63 fun ac S=>aiG fun _ aU=>adr S 1 [] [(4,.bool false)] fun ac S=>aiF<|aU _ _<|wp_seq_k fun _ fE=>aiG fun _ gW=>adr S 5 [] [(10,.bool ((((l.length:Nat):Int)) != ((m.length:Nat):Int)))] fun ac S=>aiF (gW _ _ ?_)
 refine aiI S (fun hc4=>?_) (fun hc4=>?_)
 ·refine aiG fun _ bV=>adr S 1 [] [(4,.bool false)] fun ac S=>aiF<|bV _ _<|Vp.rt ?_
  refine aiH S Tryz.results63 ?_
  exact⟨aB (mJ hc4),S.E⟩
 ·refine wp_skip<|fE _ _<|wp_seq_k fun _ iK=>aiG fun _ kC=>adr S 1 [] [(5,.int .i64 0)] fun ac S=>aiF<|kC _ _<|wp_block ?_
  refine Vp.loop (ι:=Nat) (fun p a' w'=>p≤l.length∧(l.take p=m.take p)∧Sx.St w a' w' 26 [(0,.slice a l.length cap),(1,.slice d m.length cap'),(4,.bool false),(5,.int .i64 ((p:Nat):Int))] [] []) (fun p=>l.length-p) (0) ⟨Nat.zero_le _,rfl,(S.sub [(0,.slice a l.length cap),(1,.slice d m.length cap'),(4,.bool false),(5,.int .i64 ((0:Nat):Int))]).aK⟩ ?_
  rintro k ac u hI
  try dsimp only at hI
  obtain⟨hk,hR,S⟩:=hI
  refine wp_seq_k fun _ dP=>aiG fun _ gB=>adr S 4 [] [(14,.bool (decide (((k:Nat):Int)<((l.length:Nat):Int))))] fun ac S=>aiF (gB _ _ ?_)
  refine aiI S (fun bY=>?_) (fun bY=>?_)
  ·refine wp_skip<|dP _ _<|wp_seq_k fun _ dB=>wp_block<|wp_seq_k (fun _ dw=>?_)
   have kF:k<l.length:=by have:=of_decide_eq_true bY; omega
   obtain⟨b14,S9,c16,hv,yX,um⟩:=Vp.aF h (fun _=>rfl) (k) kF
   simp only[Value.slice.injEq,true_and]at hv
   obtain⟨rfl,rfl⟩:=hv
   obtain⟨x20,lX⟩:∃z,l[k]=z:=⟨_,rfl⟩
   rw[lX]at um
   have S:=S.view0 yX um
   have jq:k<m.length:=by have:=(jV hc4); have:=of_decide_eq_true bY; omega
   obtain⟨b22,Tc,c24,hv,Ac,uo⟩:=Vp.aF h' (fun _=>rfl) (k) jq
   simp only[Value.slice.injEq,true_and]at hv
   obtain⟨rfl,rfl⟩:=hv
   obtain⟨y28,kG⟩:∃z,m[k]=z:=⟨_,rfl⟩
   rw[kG]at uo
   have S:=S.view0 Ac uo
   refine aiO S 9 [.idx k l.length,.mem 1 0,.idx k m.length,.mem 0 0,.cmp .neq 62 (.tmp 20) (.tmp 24) (.agg #[.int .i64 x20.verb,.int .i64 x20.a.x,.int .i64 x20.a.y,.int .i64 x20.b.x,.int .i64 x20.b.y,.int .i64 x20.c.x,.int .i64 x20.c.y]) (.agg #[.int .i64 y28.verb,.int .i64 y28.a.x,.int .i64 y28.a.y,.int .i64 y28.b.x,.int .i64 y28.b.y,.int .i64 y28.c.x,.int .i64 y28.c.y]) (.bool (!((x20.verb==y28.verb)&&((x20.a.x==y28.a.x)&&((x20.a.y==y28.a.y)&&((x20.b.x==y28.b.x)&&((x20.b.y==y28.b.y)&&((x20.c.x==y28.c.x)&&(x20.c.y==y28.c.y)))))))))] [] [(25,.bool (!((x20.verb==y28.verb)&&((x20.a.x==y28.a.x)&&((x20.a.y==y28.a.y)&&((x20.b.x==y28.b.x)&&((x20.b.y==y28.b.y)&&((x20.c.x==y28.c.x)&&(x20.c.y==y28.c.y)))))))))] trivial (hk:=⟨kF,jq,aiX (fun _=>abP ..) (by kernel_rfl),trivial⟩) fun ac u H7 S=>aiF (dw _ _ ?_)
   refine aiI S (fun rC=>?_) (fun rC=>?_)
   ·refine aiG fun _ qg=>adr S 1 [] [(4,.bool false)] fun ac S=>aiF<|qg _ _<|Vp.rt ?_
    refine aiH S Tryz.results63 ?_
    exact⟨aB (sG kF jq (fun e=>by have hq:=rC; rw[lX,kG]at e; subst e; simp at hq)),S.E⟩
   ·refine wp_skip<|dB _ _<|Vp.region<|adr S 3 [.re 16 (.int .i64 (IntKind.i64.wrap (((k:Nat):Int)+1))) (.int .i64 (((k+1):Nat):Int))] [(5,.int .i64 (((k+1):Nat):Int))] (hk:=⟨aiR (by omega),trivial⟩) fun ac S=>aiF ?_
    show ∃i',_∧_
    exact⟨(k+1),⟨by omega,(mM kF jq hR (by rw[lX,kG]; exact Yc rC)),(S.sub [(0,.slice (some ⟨b14,S9,none⟩) l.length cap),(1,.slice (some ⟨b22,Tc,none⟩) m.length cap'),(4,.bool false),(5,.int .i64 (((k+1):Nat):Int))]).aK⟩,by show _-_<_-_; omega⟩
  ·refine wp_exit<|iK _ _<|aiG fun _ kM=>adr S 1 [] [(4,.bool true)] fun ac S=>aiF<|kM _ _<|Vp.rt ?_
   refine aiH S Tryz.results63 ?_
   exact⟨aB (sH (by have:=of_decide_eq_false bY; omega) (jV hc4) hR),S.E⟩
theorem Me{w:World}{v u:Value}{l m:List fK}(h:aT 5 fK.cells w v l)(h':aT 5 fK.cells w u m) :
  Calls Tryz.prog 148 #[v,u] w fun e w'=>e = .returned (.bool (decide (l=m)))∧Ext w w':=by
 obtain⟨a,cap,rfl⟩:=h.shape
 obtain⟨d,cap',rfl⟩:=h'.shape
 have hmax:l.length≤9223372036854775807:=h.len
 refine aiK Tryz.func148 Tryz.ntmps148 fun ac S=>aiG fun _ aU=>adr S 1 [] [(4,.bool false)] fun ac S=>aiF<|aU _ _<|wp_seq_k fun _ fE=>aiG fun _ gW=>adr S 5 [] [(10,.bool ((((l.length:Nat):Int)) != ((m.length:Nat):Int)))] fun ac S=>aiF (gW _ _ ?_)
 refine aiI S (fun hc4=>?_) (fun hc4=>?_)
 ·refine aiG fun _ bV=>adr S 1 [] [(4,.bool false)] fun ac S=>aiF<|bV _ _<|Vp.rt ?_
  refine aiH S Tryz.results148 ?_
  exact⟨aB (mJ hc4),S.E⟩
 ·refine wp_skip<|fE _ _<|wp_seq_k fun _ iK=>aiG fun _ kC=>adr S 1 [] [(5,.int .i64 0)] fun ac S=>aiF<|kC _ _<|wp_block ?_
  refine Vp.loop (ι:=Nat) (fun p a' w'=>p≤l.length∧(l.take p=m.take p)∧Sx.St w a' w' 26 [(0,.slice a l.length cap),(1,.slice d m.length cap'),(4,.bool false),(5,.int .i64 ((p:Nat):Int))] [] []) (fun p=>l.length-p) (0) ⟨Nat.zero_le _,rfl,(S.sub [(0,.slice a l.length cap),(1,.slice d m.length cap'),(4,.bool false),(5,.int .i64 ((0:Nat):Int))]).aK⟩ ?_
  rintro k ac u hI
  try dsimp only at hI
  obtain⟨hk,hR,S⟩:=hI
  refine wp_seq_k fun _ dP=>aiG fun _ gB=>adr S 4 [] [(14,.bool (decide (((k:Nat):Int)<((l.length:Nat):Int))))] fun ac S=>aiF (gB _ _ ?_)
  refine aiI S (fun bY=>?_) (fun bY=>?_)
  ·refine wp_skip<|dP _ _<|wp_seq_k fun _ dB=>wp_block<|wp_seq_k (fun _ dw=>?_)
   have kF:k<l.length:=by have:=of_decide_eq_true bY; omega
   obtain⟨b14,S9,c16,hv,yX,um⟩:=Vp.aF h (fun _=>rfl) (k) kF
   simp only[Value.slice.injEq,true_and]at hv
   obtain⟨rfl,rfl⟩:=hv
   obtain⟨x20,lX⟩:∃z,l[k]=z:=⟨_,rfl⟩
   rw[lX]at um
   have S:=S.view0 yX um
   have jq:k<m.length:=by have:=(jV hc4); have:=of_decide_eq_true bY; omega
   obtain⟨b22,Tc,c24,hv,Ac,uo⟩:=Vp.aF h' (fun _=>rfl) (k) jq
   simp only[Value.slice.injEq,true_and]at hv
   obtain⟨rfl,rfl⟩:=hv
   obtain⟨y28,kG⟩:∃z,m[k]=z:=⟨_,rfl⟩
   rw[kG]at uo
   have S:=S.view0 Ac uo
   refine aiO S 9 [.idx k l.length,.mem 1 0,.idx k m.length,.mem 0 0,.cmp .neq 155 (.tmp 20) (.tmp 24) (.agg #[.int .i64 x20.o,.int .u8 (x20.c.r.toNat:Int),.int .u8 (x20.c.g.toNat:Int),.int .u8 (x20.c.b.toNat:Int),.int .u8 (x20.c.a.toNat:Int)]) (.agg #[.int .i64 y28.o,.int .u8 (y28.c.r.toNat:Int),.int .u8 (y28.c.g.toNat:Int),.int .u8 (y28.c.b.toNat:Int),.int .u8 (y28.c.a.toNat:Int)]) (.bool (!((x20.o==y28.o)&&(((x20.c.r.toNat:Int)==(y28.c.r.toNat:Int))&&(((x20.c.g.toNat:Int)==(y28.c.g.toNat:Int))&&(((x20.c.b.toNat:Int)==(y28.c.b.toNat:Int))&&((x20.c.a.toNat:Int)==(y28.c.a.toNat:Int))))))))] [] [(25,.bool (!((x20.o==y28.o)&&(((x20.c.r.toNat:Int)==(y28.c.r.toNat:Int))&&(((x20.c.g.toNat:Int)==(y28.c.g.toNat:Int))&&(((x20.c.b.toNat:Int)==(y28.c.b.toNat:Int))&&((x20.c.a.toNat:Int)==(y28.c.a.toNat:Int))))))))] trivial (hk:=⟨kF,jq,aiX (fun _=>Yd ..) (by kernel_rfl),trivial⟩) fun ac u H7 S=>aiF (dw _ _ ?_)
   refine aiI S (fun rC=>?_) (fun rC=>?_)
   ·refine aiG fun _ qg=>adr S 1 [] [(4,.bool false)] fun ac S=>aiF<|qg _ _<|Vp.rt ?_
    refine aiH S Tryz.results148 ?_
    exact⟨aB (sG kF jq (fun e=>by have hq:=rC; rw[lX,kG]at e; subst e; simp at hq)),S.E⟩
   ·refine wp_skip<|dB _ _<|Vp.region<|adr S 3 [.re 16 (.int .i64 (IntKind.i64.wrap (((k:Nat):Int)+1))) (.int .i64 (((k+1):Nat):Int))] [(5,.int .i64 (((k+1):Nat):Int))] (hk:=⟨aiR (by omega),trivial⟩) fun ac S=>aiF ?_
    show ∃i',_∧_
    exact⟨(k+1),⟨by omega,(mM kF jq hR (by rw[lX,kG]; exact Td rC)),(S.sub [(0,.slice (some ⟨b14,S9,none⟩) l.length cap),(1,.slice (some ⟨b22,Tc,none⟩) m.length cap'),(4,.bool false),(5,.int .i64 (((k+1):Nat):Int))]).aK⟩,by show _-_<_-_; omega⟩
  ·refine wp_exit<|iK _ _<|aiG fun _ kM=>adr S 1 [] [(4,.bool true)] fun ac S=>aiF<|kM _ _<|Vp.rt ?_
   refine aiH S Tryz.results148 ?_
   exact⟨aB (sH (by have:=of_decide_eq_false bY; omega) (jV hc4) hR),S.E⟩
theorem acT{p q:bU}(h:((((p.w) != q.w)||((p.h) != q.h))||(((p.l.length:Nat):Int) != ((q.l.length:Nat):Int)))=true):false=p.eq q:=by
 symm
 rw[Bool.eq_false_iff]
 intro e
 simp only[bU.eq,Bool.and_eq_true,beq_iff_eq]at e
 rw[e.1,e.2.1,e.2.2]at h
 simp at h
theorem Ye{p q:bU}(h:((((p.w) != q.w)||((p.h) != q.h))||(((p.l.length:Nat):Int) != ((q.l.length:Nat):Int)))=false):p.l.length=q.l.length:=by
 simp at h; omega
theorem acU{p q:bU}(h:((((p.w) != q.w)||((p.h) != q.h))||(((p.l.length:Nat):Int) != ((q.l.length:Nat):Int)))=false)(h2:true=decide (p.l=q.l)):true=p.eq q:=by
 simp at h h2
 simp[bU.eq,h,h2]
theorem acV{p q:bU}(h2:false=decide (p.l=q.l)):false=p.eq q:=by
 simp at h2
 simp[bU.eq,h2]
theorem Ad{w:World}{y1 y2:bU}(h:y1.ok w)(h':y2.ok w) :
  Calls Tryz.prog 66 #[y1.v,y2.v] w fun e w'=>e = .returned (.bool (y1.eq y2))∧Ext w w':=by
 obtain⟨a,cap,hs⟩:=h.2.2.shape
 obtain⟨d,cap',hs'⟩:=h'.2.2.shape
 unfold bU.v
 have hq:=h.2.2
 have hq':=h'.2.2
 rw[hs,hs']
 rw[hs]at hq
 rw[hs']at hq'
 have hmax:y1.l.length≤9223372036854775807:=h.2.2.len
 refine aiK Tryz.func66 Tryz.ntmps66 fun ac S=>aiG fun _ aU=>aiJ S 2 [.int .i64 y1.w,.int .i64 y1.h,.slice a y1.l.length cap] fun ac u b2 E3 hb4 S=>aiJ S 3 [.int .i64 y2.w,.int .i64 y2.h,.slice d y2.l.length cap'] fun ac u b5 E6 hb7 S=>adr S 1 [] [(4,.bool false)] fun ac S=>aiF<|aU _ _<|wp_seq_k fun _ dP=>aiG fun _ gB=>adr S 21 [.mem 1 0,.mem 0 0,.mem 1 1,.mem 0 1,.mem 1 2,.mem 0 2] [(26,.bool ((((y1.w) != y2.w)||((y1.h) != y2.h))||((((y1.l.length:Nat):Int)) != ((y2.l.length:Nat):Int))))] fun ac S=>aiF (gB _ _ ?_)
 refine aiI S (fun bY=>?_) (fun bY=>?_)
 ·refine aiG fun _ dB=>adr S 1 [] [(4,.bool false)] fun ac S=>aiF<|dB _ _<|Vp.rt ?_
  refine aiH S Tryz.results66 ?_
  exact⟨aB (acT bY),S.E⟩
 ·refine wp_skip<|dP _ _<|wp_seq_k fun _ dw=>aiG fun _ fZ=>adr S 1 [] [(5,.int .i64 0)] fun ac S=>aiF<|fZ _ _<|wp_block ?_
  refine Vp.loop (ι:=Nat) (fun p a' w'=>p≤y1.l.length∧(y1.l.take p=y2.l.take p)∧Sx.St w a' w' 45 [(0,.agg #[.int .i64 y1.w,.int .i64 y1.h,.slice a y1.l.length cap]),(1,.agg #[.int .i64 y2.w,.int .i64 y2.h,.slice d y2.l.length cap']),(2,.pointer (some ⟨b2,0,none⟩)),(3,.pointer (some ⟨b5,0,none⟩)),(4,.bool false),(5,.int .i64 ((p:Nat):Int))] [(b5,[.int .i64 y2.w,.int .i64 y2.h,.slice d y2.l.length cap']),(b2,[.int .i64 y1.w,.int .i64 y1.h,.slice a y1.l.length cap])] []) (fun p=>y1.l.length-p) (0) ⟨Nat.zero_le _,rfl,(S.sub [(0,.agg #[.int .i64 y1.w,.int .i64 y1.h,.slice a y1.l.length cap]),(1,.agg #[.int .i64 y2.w,.int .i64 y2.h,.slice d y2.l.length cap']),(2,.pointer (some ⟨b2,0,none⟩)),(3,.pointer (some ⟨b5,0,none⟩)),(4,.bool false),(5,.int .i64 ((0:Nat):Int))]).aK⟩ ?_
  rintro k ac u hI
  try dsimp only at hI
  obtain⟨hk,hR,S⟩:=hI
  refine wp_seq_k fun _ fU=>aiG fun _ fH=>adr S 5 [.mem 1 2] [(31,.bool (decide (((k:Nat):Int)<((y1.l.length:Nat):Int))))] fun ac S=>aiF (fH _ _ ?_)
  refine aiI S (fun hc16=>?_) (fun hc16=>?_)
  ·refine wp_skip<|fU _ _<|wp_seq_k fun _ ig=>wp_block<|wp_seq_k (fun _ je=>?_)
   have vZ:k<y1.l.length:=by have:=of_decide_eq_true hc16; omega
   obtain⟨b20,o21,Hy,hv,Dw,ED⟩:=Vp.aF hq (fun _=>rfl) (k) vZ
   simp only[Value.slice.injEq,true_and]at hv
   obtain⟨rfl,rfl⟩:=hv
   obtain⟨IL,hx24⟩:∃z,y1.l[k]=z:=⟨_,rfl⟩
   rw[hx24]at ED
   have S:=S.view0 Dw ED
   have zk:k<y2.l.length:=by have:=(Ye bY); have:=of_decide_eq_true hc16; omega
   obtain⟨b28,o29,c30,hv,Yf,MB⟩:=Vp.aF hq' (fun _=>rfl) (k) zk
   simp only[Value.slice.injEq,true_and]at hv
   obtain⟨rfl,rfl⟩:=hv
   obtain⟨y34,hx32⟩:∃z,y2.l[k]=z:=⟨_,rfl⟩
   rw[hx32]at MB
   have S:=S.view0 Yf MB
   refine aiO S 11 [.mem 1 2,.idx k y1.l.length,.mem 3 0,.mem 0 2,.idx k y2.l.length,.mem 2 0,.cmp .neq 122 (.tmp 38) (.tmp 43) (.agg #[.int .u8 (IL.r.toNat:Int),.int .u8 (IL.g.toNat:Int),.int .u8 (IL.b.toNat:Int),.int .u8 (IL.a.toNat:Int)]) (.agg #[.int .u8 (y34.r.toNat:Int),.int .u8 (y34.g.toNat:Int),.int .u8 (y34.b.toNat:Int),.int .u8 (y34.a.toNat:Int)]) (.bool (!(((IL.r.toNat:Int)==(y34.r.toNat:Int))&&(((IL.g.toNat:Int)==(y34.g.toNat:Int))&&(((IL.b.toNat:Int)==(y34.b.toNat:Int))&&((IL.a.toNat:Int)==(y34.a.toNat:Int)))))))] [] [(44,.bool (!(((IL.r.toNat:Int)==(y34.r.toNat:Int))&&(((IL.g.toNat:Int)==(y34.g.toNat:Int))&&(((IL.b.toNat:Int)==(y34.b.toNat:Int))&&((IL.a.toNat:Int)==(y34.a.toNat:Int)))))))] trivial (hk:=⟨vZ,zk,aiX (fun _=>abQ ..) (by kernel_rfl),trivial⟩) fun ac u Xm S=>aiF (je _ _ ?_)
   refine aiI S (fun zn=>?_) (fun zn=>?_)
   ·refine aiG fun _ qo=>adr S 1 [] [(4,.bool false)] fun ac S=>aiF<|qo _ _<|Vp.rt ?_
    refine aiH S Tryz.results66 ?_
    exact⟨aB (acV (sG vZ zk (fun e=>by have hq:=zn; rw[hx24,hx32]at e; subst e; simp at hq))),S.E⟩
   ·refine wp_skip<|ig _ _<|Vp.region<|adr S 3 [.re 33 (.int .i64 (IntKind.i64.wrap (((k:Nat):Int)+1))) (.int .i64 (((k+1):Nat):Int))] [(5,.int .i64 (((k+1):Nat):Int))] (hk:=⟨aiR (by omega),trivial⟩) fun ac S=>aiF ?_
    show ∃i',_∧_
    exact⟨(k+1),⟨by omega,(mM vZ zk hR (by rw[hx24,hx32]; exact Qh zn)),(S.sub [(0,.agg #[.int .i64 y1.w,.int .i64 y1.h,.slice (some ⟨b20,o21,none⟩) y1.l.length cap]),(1,.agg #[.int .i64 y2.w,.int .i64 y2.h,.slice (some ⟨b28,o29,none⟩) y2.l.length cap']),(2,.pointer (some ⟨b2,0,none⟩)),(3,.pointer (some ⟨b5,0,none⟩)),(4,.bool false),(5,.int .i64 (((k+1):Nat):Int))]).aK⟩,by show _-_<_-_; omega⟩
  ·refine wp_exit<|dw _ _<|aiG fun _ jG=>adr S 1 [] [(4,.bool true)] fun ac S=>aiF<|jG _ _<|Vp.rt ?_
   refine aiH S Tryz.results66 ?_
   exact⟨aB (acU bY (sH (by have:=of_decide_eq_false hc16; omega) (Ye bY) hR)),S.E⟩
theorem acW{p q:aZ}(h:((((((((p.width) != q.width)||((p.join) != q.join))||((p.cap) != q.cap))||((p.dU) != q.dU))||((p.phase) != q.phase))||(((p.dash.length:Nat):Int) != ((q.dash.length:Nat):Int))))=true):false=p.eq q:=by
 symm
 rw[Bool.eq_false_iff]
 intro e
 simp only[aZ.eq,Bool.and_eq_true,beq_iff_eq,decide_eq_true_eq]at e
 obtain⟨⟨⟨⟨⟨e1,e2⟩,e3⟩,e4⟩,e5⟩,e6⟩:=e
 rw[e1,e2,e3,e4,e5,e6]at h
 simp at h
theorem Yg{p q:aZ}(h:((((((((p.width) != q.width)||((p.join) != q.join))||((p.cap) != q.cap))||((p.dU) != q.dU))||((p.phase) != q.phase))||(((p.dash.length:Nat):Int) != ((q.dash.length:Nat):Int))))=false):p.dash.length=q.dash.length:=by
 simp at h; omega
theorem acX{p q:aZ}(h:((((((((p.width) != q.width)||((p.join) != q.join))||((p.cap) != q.cap))||((p.dU) != q.dU))||((p.phase) != q.phase))||(((p.dash.length:Nat):Int) != ((q.dash.length:Nat):Int))))=false)(h2:true=decide (p.dash=q.dash)):true=p.eq q:=by
 simp at h h2
 simp[aZ.eq,h,h2]
theorem acY{p q:aZ}(h2:false=decide (p.dash=q.dash)):false=p.eq q:=by
 simp at h2
 simp[aZ.eq,h2]
theorem EF{w:World}{y1 y2:aZ}(h:y1.ok w)(h':y2.ok w) :
  Calls Tryz.prog 65 #[y1.v,y2.v] w fun e w'=>e = .returned (.bool (y1.eq y2))∧Ext w w':=by
 obtain⟨a,cap,hs,hcap,hrow⟩:=h.2.2.2.2.1
 obtain⟨d,cap',hs',hcap',hrow'⟩:=h'.2.2.2.2.1
 unfold aZ.v
 have hq:=eG (f:=zf) h.2.2.2.2.1
 have hq':=eG (f:=zf) h'.2.2.2.2.1
 rw[hs,hs']
 rw[hs]at hq
 rw[hs']at hq'
 have hmax:y1.dash.length≤9223372036854775807:=hq.len
 refine aiK Tryz.func65 Tryz.ntmps65 fun ac S=>aiG fun _ aU=>aiJ S 2 [.int .i64 y1.width,.int .i64 y1.join,.int .i64 y1.cap,.int .i64 y1.dU,.slice a y1.dash.length cap,.int .i64 y1.phase] fun ac u b2 E3 hb4 S=>aiJ S 3 [.int .i64 y2.width,.int .i64 y2.join,.int .i64 y2.cap,.int .i64 y2.dU,.slice d y2.dash.length cap',.int .i64 y2.phase] fun ac u b5 E6 hb7 S=>adr S 1 [] [(4,.bool false)] fun ac S=>aiF<|aU _ _<|wp_seq_k fun _ dP=>aiG fun _ gB=>adr S 42 [.mem 1 0,.mem 0 0,.mem 1 1,.mem 0 1,.mem 1 2,.mem 0 2,.mem 1 3,.mem 0 3,.mem 1 5,.mem 0 5,.mem 1 4,.mem 0 4] [(47,.bool (((((((y1.width) != y2.width)||((y1.join) != y2.join))||((y1.cap) != y2.cap))||((y1.dU) != y2.dU))||((y1.phase) != y2.phase))||((((y1.dash.length:Nat):Int)) != ((y2.dash.length:Nat):Int))))] fun ac S=>aiF (gB _ _ ?_)
 refine aiI S (fun bY=>?_) (fun bY=>?_)
 ·refine aiG fun _ dB=>adr S 1 [] [(4,.bool false)] fun ac S=>aiF<|dB _ _<|Vp.rt ?_
  refine aiH S Tryz.results65 ?_
  exact⟨aB (acW bY),S.E⟩
 ·refine wp_skip<|dP _ _<|wp_seq_k fun _ dw=>aiG fun _ fZ=>adr S 1 [] [(5,.int .i64 0)] fun ac S=>aiF<|fZ _ _<|wp_block ?_
  refine Vp.loop (ι:=Nat) (fun p a' w'=>p≤y1.dash.length∧(y1.dash.take p=y2.dash.take p)∧Sx.St w a' w' 66 [(0,.agg #[.int .i64 y1.width,.int .i64 y1.join,.int .i64 y1.cap,.int .i64 y1.dU,.slice a y1.dash.length cap,.int .i64 y1.phase]),(1,.agg #[.int .i64 y2.width,.int .i64 y2.join,.int .i64 y2.cap,.int .i64 y2.dU,.slice d y2.dash.length cap',.int .i64 y2.phase]),(2,.pointer (some ⟨b2,0,none⟩)),(3,.pointer (some ⟨b5,0,none⟩)),(4,.bool false),(5,.int .i64 ((p:Nat):Int))] [(b5,[.int .i64 y2.width,.int .i64 y2.join,.int .i64 y2.cap,.int .i64 y2.dU,.slice d y2.dash.length cap',.int .i64 y2.phase]),(b2,[.int .i64 y1.width,.int .i64 y1.join,.int .i64 y1.cap,.int .i64 y1.dU,.slice a y1.dash.length cap,.int .i64 y1.phase])] []) (fun p=>y1.dash.length-p) (0) ⟨Nat.zero_le _,rfl,(S.sub [(0,.agg #[.int .i64 y1.width,.int .i64 y1.join,.int .i64 y1.cap,.int .i64 y1.dU,.slice a y1.dash.length cap,.int .i64 y1.phase]),(1,.agg #[.int .i64 y2.width,.int .i64 y2.join,.int .i64 y2.cap,.int .i64 y2.dU,.slice d y2.dash.length cap',.int .i64 y2.phase]),(2,.pointer (some ⟨b2,0,none⟩)),(3,.pointer (some ⟨b5,0,none⟩)),(4,.bool false),(5,.int .i64 ((0:Nat):Int))]).aK⟩ ?_
  rintro k ac u hI
  try dsimp only at hI
  obtain⟨hk,hR,S⟩:=hI
  refine wp_seq_k fun _ fU=>aiG fun _ fH=>adr S 5 [.mem 1 4] [(52,.bool (decide (((k:Nat):Int)<((y1.dash.length:Nat):Int))))] fun ac S=>aiF (fH _ _ ?_)
  refine aiI S (fun hc16=>?_) (fun hc16=>?_)
  ·refine wp_skip<|fU _ _<|wp_seq_k fun _ ig=>wp_block<|wp_seq_k (fun _ je=>?_)
   have vZ:k<y1.dash.length:=by have:=of_decide_eq_true hc16; omega
   obtain⟨b20,o21,Hy,hv,Dw,ED⟩:=Vp.aF hq (fun _=>rfl) (k) vZ
   simp only[Value.slice.injEq,true_and]at hv
   obtain⟨rfl,rfl⟩:=hv
   obtain⟨IL,hx24⟩:∃z,y1.dash[k]=z:=⟨_,rfl⟩
   rw[hx24]at ED
   have S:=S.view0 Dw ED
   have zk:k<y2.dash.length:=by have:=(Yg bY); have:=of_decide_eq_true hc16; omega
   obtain⟨b28,o29,c30,hv,Yf,MB⟩:=Vp.aF hq' (fun _=>rfl) (k) zk
   simp only[Value.slice.injEq,true_and]at hv
   obtain⟨rfl,rfl⟩:=hv
   obtain⟨y34,hx32⟩:∃z,y2.dash[k]=z:=⟨_,rfl⟩
   rw[hx32]at MB
   have S:=S.view0 Yf MB
   refine aiO S 11 [.mem 1 4,.idx k y1.dash.length,.mem 3 0,.mem 0 4,.idx k y2.dash.length,.mem 2 0] [] [(65,.bool ((IL) != y34))] trivial (hk:=⟨vZ,zk,trivial⟩) fun ac u Xm S=>aiF (je _ _ ?_)
   refine aiI S (fun zn=>?_) (fun zn=>?_)
   ·refine aiG fun _ qo=>adr S 1 [] [(4,.bool false)] fun ac S=>aiF<|qo _ _<|Vp.rt ?_
    refine aiH S Tryz.results65 ?_
    exact⟨aB (acY (sG vZ zk (fun e=>by have hq:=zn; rw[hx24,hx32]at e; subst e; simp at hq))),S.E⟩
   ·refine wp_skip<|ig _ _<|Vp.region<|adr S 3 [.re 54 (.int .i64 (IntKind.i64.wrap (((k:Nat):Int)+1))) (.int .i64 (((k+1):Nat):Int))] [(5,.int .i64 (((k+1):Nat):Int))] (hk:=⟨aiR (by omega),trivial⟩) fun ac S=>aiF ?_
    show ∃i',_∧_
    exact⟨(k+1),⟨by omega,(mM vZ zk hR (by rw[hx24,hx32]; exact Yh zn)),(S.sub [(0,.agg #[.int .i64 y1.width,.int .i64 y1.join,.int .i64 y1.cap,.int .i64 y1.dU,.slice (some ⟨b20,o21,none⟩) y1.dash.length cap,.int .i64 y1.phase]),(1,.agg #[.int .i64 y2.width,.int .i64 y2.join,.int .i64 y2.cap,.int .i64 y2.dU,.slice (some ⟨b28,o29,none⟩) y2.dash.length cap',.int .i64 y2.phase]),(2,.pointer (some ⟨b2,0,none⟩)),(3,.pointer (some ⟨b5,0,none⟩)),(4,.bool false),(5,.int .i64 (((k+1):Nat):Int))]).aK⟩,by show _-_<_-_; omega⟩
  ·refine wp_exit<|dw _ _<|aiG fun _ jG=>adr S 1 [] [(4,.bool true)] fun ac S=>aiF<|jG _ _<|Vp.rt ?_
   refine aiH S Tryz.results65 ?_
   exact⟨aB (acX bY (sH (by have:=of_decide_eq_false hc16; omega) (Yg bY) hR)),S.E⟩
theorem agY{p q:ak}(h:vY p.t.q)(h':vY q.t.q):(((((((((((p.kind)==q.kind)&&(((p.color.r.toNat:Int)==(q.color.r.toNat:Int))&&(((p.color.g.toNat:Int)==(q.color.g.toNat:Int))&&(((p.color.b.toNat:Int)==(q.color.b.toNat:Int))&&((p.color.a.toNat:Int)==(q.color.a.toNat:Int))))))&&((p.p0.x==q.p0.x)&&(p.p0.y==q.p0.y)))&&((p.p1.x==q.p1.x)&&(p.p1.y==q.p1.y)))&&((p.bG)==q.bG))&&(decide (p.stops=q.stops)))&&((p.spread)==q.spread))&&(p.img.eq q.img))&&((p.cZ)==q.cZ))&&(p.t.q.same q.t.q))=p.eq q:=by
 unfold ak.eq
 rw[Q6.same_eq h h']
 ac_rfl
theorem JR{w:World}{p q:ak}{K:Nat}(h:p.ok w)(h':q.ok w)(hf:p.t.fit K)(hf':q.t.fit K)(hK1:1≤K)(hK:K≤10000) :
  Calls Tryz.prog 107 #[p.v,q.v] w fun e w'=>e = .returned (.bool (p.eq q))∧Ext w w':=by
 have hq:=aV.toQ h.2.2.2.2.2.2.2.2.2 hf
 have hq':=aV.toQ h'.2.2.2.2.2.2.2.2.2 hf'
 refine aiK Tryz.func107 Tryz.ntmps107 fun ac S=>aiG fun _ aU=>aiJ S 2 p.cells fun ac u b2 E3 hb4 S=>aiJ S 3 q.cells fun ac u b5 E6 hb7 S=>adr S 1 [] [(4,.bool false)] fun ac S=>aiF<|aU _ _<|aiG fun _ dP=>aiT S 69 [.mem 1 0,.mem 0 0,.mem 1 1,.mem 0 1,.cmp .eql 23 (.tmp 12) (.tmp 14) (.agg #[.int .u8 (p.color.r.toNat:Int),.int .u8 (p.color.g.toNat:Int),.int .u8 (p.color.b.toNat:Int),.int .u8 (p.color.a.toNat:Int)]) (.agg #[.int .u8 (q.color.r.toNat:Int),.int .u8 (q.color.g.toNat:Int),.int .u8 (q.color.b.toNat:Int),.int .u8 (q.color.a.toNat:Int)]) (.bool (((p.color.r.toNat:Int)==(q.color.r.toNat:Int))&&(((p.color.g.toNat:Int)==(q.color.g.toNat:Int))&&(((p.color.b.toNat:Int)==(q.color.b.toNat:Int))&&((p.color.a.toNat:Int)==(q.color.a.toNat:Int)))))),.mem 1 5,.mem 0 5,.cmp .eql 60 (.tmp 19) (.tmp 21) (.agg #[.int .i64 p.p0.x,.int .i64 p.p0.y]) (.agg #[.int .i64 q.p0.x,.int .i64 q.p0.y]) (.bool ((p.p0.x==q.p0.x)&&(p.p0.y==q.p0.y))),.mem 1 7,.mem 0 7,.cmp .eql 60 (.tmp 26) (.tmp 28) (.agg #[.int .i64 p.p1.x,.int .i64 p.p1.y]) (.agg #[.int .i64 q.p1.x,.int .i64 q.p1.y]) (.bool ((p.p1.x==q.p1.x)&&(p.p1.y==q.p1.y))),.mem 1 9,.mem 0 9,.mem 1 10,.mem 0 10,.mem 1 11,.mem 0 11,.mem 1 12,.mem 0 12,.mem 1 15,.mem 0 15,.mem 1 16,.mem 0 16] [(_,_,((((((p.kind)==q.kind)&&(((p.color.r.toNat:Int)==(q.color.r.toNat:Int))&&(((p.color.g.toNat:Int)==(q.color.g.toNat:Int))&&(((p.color.b.toNat:Int)==(q.color.b.toNat:Int))&&((p.color.a.toNat:Int)==(q.color.a.toNat:Int))))))&&((p.p0.x==q.p0.x)&&(p.p0.y==q.p0.y)))&&((p.p1.x==q.p1.x)&&(p.p1.y==q.p1.y)))&&((p.bG)==q.bG)),.bool (decide (p.stops=q.stops))),(_,_,((((((((p.kind)==q.kind)&&(((p.color.r.toNat:Int)==(q.color.r.toNat:Int))&&(((p.color.g.toNat:Int)==(q.color.g.toNat:Int))&&(((p.color.b.toNat:Int)==(q.color.b.toNat:Int))&&((p.color.a.toNat:Int)==(q.color.a.toNat:Int))))))&&((p.p0.x==q.p0.x)&&(p.p0.y==q.p0.y)))&&((p.p1.x==q.p1.x)&&(p.p1.y==q.p1.y)))&&((p.bG)==q.bG))&&(decide (p.stops=q.stops)))&&((p.spread)==q.spread)),.bool (p.img.eq q.img)),(_,_,((((((((((p.kind)==q.kind)&&(((p.color.r.toNat:Int)==(q.color.r.toNat:Int))&&(((p.color.g.toNat:Int)==(q.color.g.toNat:Int))&&(((p.color.b.toNat:Int)==(q.color.b.toNat:Int))&&((p.color.a.toNat:Int)==(q.color.a.toNat:Int))))))&&((p.p0.x==q.p0.x)&&(p.p0.y==q.p0.y)))&&((p.p1.x==q.p1.x)&&(p.p1.y==q.p1.y)))&&((p.bG)==q.bG))&&(decide (p.stops=q.stops)))&&((p.spread)==q.spread))&&(p.img.eq q.img))&&((p.cZ)==q.cZ)),.bool (p.t.q.same q.t.q))] [(4,.bool (((((((((((p.kind)==q.kind)&&(((p.color.r.toNat:Int)==(q.color.r.toNat:Int))&&(((p.color.g.toNat:Int)==(q.color.g.toNat:Int))&&(((p.color.b.toNat:Int)==(q.color.b.toNat:Int))&&((p.color.a.toNat:Int)==(q.color.a.toNat:Int))))))&&((p.p0.x==q.p0.x)&&(p.p0.y==q.p0.y)))&&((p.p1.x==q.p1.x)&&(p.p1.y==q.p1.y)))&&((p.bG)==q.bG))&&(decide (p.stops=q.stops)))&&((p.spread)==q.spread))&&(p.img.eq q.img))&&((p.cZ)==q.cZ))&&(p.t.q.same q.t.q)))] ⟨fun u hC g=>Me (l:=p.stops) (m:=q.stops) (h.2.2.2.2.1.below (Ext.trans' S.E hC)) (h'.2.2.2.2.1.below (Ext.trans' S.E hC)),fun u hC g=>Ad (y1:=p.img) (y2:=q.img) (h.2.2.2.2.2.2.2.1.below (Ext.trans' S.E hC)) (h'.2.2.2.2.2.2.2.1.below (Ext.trans' S.E hC)),fun u hC g=>uZ (t:=p.t) (t2:=q.t) (hq.eU (Ext.trans' S.E hC)) (hq'.eU (Ext.trans' S.E hC)) hK1 hK,trivial⟩ (hk:=⟨aiX (fun _=>IQ ..) (by kernel_rfl),aiX (fun _=>eqPt ..) (by kernel_rfl),aiX (fun _=>eqPt ..) (by kernel_rfl),trivial⟩) fun ac u E9 S=>aiF<|dP _ _<|Vp.rt ?_
 refine aiH S Tryz.results107 ?_
 exact⟨aB (agY hq.nrm hq'.nrm),S.E⟩
theorem vW{w:World}{v u:Value}{l m:List ak}(h:iV w v l)(h':iV w u m)(hf:∀p∈l,p.t.fit K)(hf':∀p∈m,p.t.fit K)(hK1:1≤K)(hK:K≤10000) :
  Calls Tryz.prog 64 #[v,u] w fun e w'=>e = .returned (.bool (bQ l m))∧Ext w w':=by
 obtain⟨a,cap,rfl⟩:=h.1.shape
 obtain⟨d,cap',rfl⟩:=h'.1.shape
 have hmax:l.length≤9223372036854775807:=h.1.len
 refine aiK Tryz.func64 Tryz.ntmps64 fun ac S=>aiG fun _ aU=>adr S 1 [] [(4,.bool false)] fun ac S=>aiF<|aU _ _<|wp_seq_k fun _ fE=>aiG fun _ gW=>adr S 5 [] [(10,.bool ((((l.length:Nat):Int)) != ((m.length:Nat):Int)))] fun ac S=>aiF (gW _ _ ?_)
 refine aiI S (fun hc4=>?_) (fun hc4=>?_)
 ·refine aiG fun _ bV=>adr S 1 [] [(4,.bool false)] fun ac S=>aiF<|bV _ _<|Vp.rt ?_
  refine aiH S Tryz.results64 ?_
  exact⟨aB (Yi hc4),S.E⟩
 ·refine wp_skip<|fE _ _<|wp_seq_k fun _ iK=>aiG fun _ kC=>adr S 1 [] [(5,.int .i64 0)] fun ac S=>aiF<|kC _ _<|wp_block ?_
  refine Vp.loop (ι:=Nat) (fun p a' w'=>p≤l.length∧(((l.zip m).take p).all (fun p=>p.1.eq p.2)=true)∧Sx.St w a' w' 27 [(0,.slice a l.length cap),(1,.slice d m.length cap'),(4,.bool false),(5,.int .i64 ((p:Nat):Int))] [] []) (fun p=>l.length-p) (0) ⟨Nat.zero_le _,rfl,(S.sub [(0,.slice a l.length cap),(1,.slice d m.length cap'),(4,.bool false),(5,.int .i64 ((0:Nat):Int))]).aK⟩ ?_
  rintro k ac u hI
  try dsimp only at hI
  obtain⟨hk,hR,S⟩:=hI
  refine wp_seq_k fun _ dP=>aiG fun _ gB=>adr S 4 [] [(14,.bool (decide (((k:Nat):Int)<((l.length:Nat):Int))))] fun ac S=>aiF (gB _ _ ?_)
  refine aiI S (fun bY=>?_) (fun bY=>?_)
  ·refine wp_skip<|dP _ _<|wp_seq_k fun _ dB=>wp_block<|wp_seq_k (fun _ dw=>?_)
   have kF:k<l.length:=by have:=of_decide_eq_true bY; omega
   obtain⟨b14,S9,c16,hv,yX,um⟩:=Vp.aF h.1 (fun _=>rfl) (k) kF
   simp only[Value.slice.injEq,true_and]at hv
   obtain⟨rfl,rfl⟩:=hv
   obtain⟨x20,lX⟩:∃z,l[k]=z:=⟨_,rfl⟩
   rw[lX]at um
   have S:=S.view0 yX um
   have jq:k<m.length:=by have:=jV hc4; have:=of_decide_eq_true bY; omega
   obtain⟨b22,Tc,c24,hv,Ac,uo⟩:=Vp.aF h'.1 (fun _=>rfl) (k) jq
   simp only[Value.slice.injEq,true_and]at hv
   obtain⟨rfl,rfl⟩:=hv
   obtain⟨y28,kG⟩:∃z,m[k]=z:=⟨_,rfl⟩
   rw[kG]at uo
   have S:=S.view0 Ac uo
   refine aiO S 10 [.idx k l.length,.mem 1 0,.idx k m.length,.mem 0 0] [(_,_,true,.bool (x20.eq y28))] [(26,.bool (!(x20.eq y28)))] ⟨fun u hC g=>JR (K:=K) (p:=x20) (q:=y28) ((h.2 _ (lX▸List.getElem_mem kF)).below (Ext.trans' S.E hC)) ((h'.2 _ (kG▸List.getElem_mem jq)).below (Ext.trans' S.E hC)) (hf _ (lX▸List.getElem_mem kF)) (hf' _ (kG▸List.getElem_mem jq)) hK1 hK,trivial⟩ (hk:=⟨kF,jq,trivial⟩) fun ac u H7 S=>aiF (dw _ _ ?_)
   refine aiI S (fun rC=>?_) (fun rC=>?_)
   ·refine aiG fun _ qg=>adr S 1 [] [(4,.bool false)] fun ac S=>aiF<|qg _ _<|Vp.rt ?_
    refine aiH S Tryz.results64 ?_
    exact⟨aB (Yj kF jq (by rw[lX,kG]; exact rC)),S.E⟩
   ·refine wp_skip<|dB _ _<|Vp.region<|adr S 3 [.re 16 (.int .i64 (IntKind.i64.wrap (((k:Nat):Int)+1))) (.int .i64 (((k+1):Nat):Int))] [(5,.int .i64 (((k+1):Nat):Int))] (hk:=⟨aiR (by omega),trivial⟩) fun ac S=>aiF ?_
    show ∃i',_∧_
    exact⟨(k+1),⟨by omega,(MC kF jq hR (by rw[lX,kG]; exact rC)),(S.sub [(0,.slice (some ⟨b14,S9,none⟩) l.length cap),(1,.slice (some ⟨b22,Tc,none⟩) m.length cap'),(4,.bool false),(5,.int .i64 (((k+1):Nat):Int))]).aK⟩,by show _-_<_-_; omega⟩
  ·refine wp_exit<|iK _ _<|aiG fun _ kM=>adr S 1 [] [(4,.bool true)] fun ac S=>aiF<|kM _ _<|Vp.rt ?_
   refine aiH S Tryz.results64 ?_
   exact⟨aB (Tf (by have:=of_decide_eq_false bY; omega) (jV hc4) hR),S.E⟩
def aj.eqR(a b:aj):Bool:=cond ((((((((a.id) != b.id)||((a.kind) != b.kind))||((a.depth) != b.depth))||(!(a.t.q.same b.t.q)))||((a.aO) != b.aO))||((a.aY) != b.aY))||((a.cZ) != b.cZ)) (false) (cond ((((((a.eY.toNat:Int)) != (b.eY.toNat:Int))||((a.blend) != b.blend))||(!(a.isolated==b.isolated)))||(!(a.dN==b.dN))) (false) ((((((decide (a.clip=b.clip))&&(decide (a.path=b.path)))&&(bQ a.fill b.fill))&&(bQ a.stroke b.stroke))&&(a.style.eq b.style))&&(a.img.eq b.img)))
theorem JU{w:World}{a b:aj}(h:fJ K w a)(h':fJ K w b) :
  Calls Tryz.prog 28 #[a.v,b.v] w fun e w'=>e = .returned (.bool (aj.eqR a b))∧Ext w w':=by
 skip
 refine aiK Tryz.func28 Tryz.ntmps28 fun ac S=>aiG fun _ aU=>aiJ S 2 a.cells fun ac u b2 E3 hb4 S=>aiJ S 3 b.cells fun ac u b5 E6 hb7 S=>adr S 1 [] [(4,.bool false)] fun ac S=>aiF<|aU _ _<|wp_seq_k fun _ dP=>aiG fun _ gB=>aiT S 48 [.mem 1 0,.mem 0 0,.mem 1 1,.mem 0 1,.mem 1 2,.mem 0 2,.mem 1 3,.mem 0 3,.mem 1 28,.mem 0 28,.mem 1 34,.mem 0 34,.mem 1 46,.mem 0 46] [(_,_,(!((((a.id) != b.id)||((a.kind) != b.kind))||((a.depth) != b.depth))),.bool (a.t.q.same b.t.q))] [(52,.bool ((((((((a.id) != b.id)||((a.kind) != b.kind))||((a.depth) != b.depth))||(!(a.t.q.same b.t.q)))||((a.aO) != b.aO))||((a.aY) != b.aY))||((a.cZ) != b.cZ)))] ⟨fun u hC g=>uZ (t:=a.t) (t2:=b.t) ((aV.toQ h.1.2.2.2.1 h.2.1).eU (Ext.trans' S.E hC)) ((aV.toQ h'.1.2.2.2.1 h'.2.1).eU (Ext.trans' S.E hC)) h.2.2.2.2.1 h.2.2.2.2.2,trivial⟩ fun ac u Bj S=>aiF (gB _ _ ?_)
 refine aiI S (fun gu=>?_) (fun gu=>?_)
 ·refine aiG fun _ dw=>adr S 1 [] [(4,.bool false)] fun ac S=>aiF<|dw _ _<|Vp.rt ?_
  have p0:=gu
  refine aiH S Tryz.results28 ?_
  exact⟨aB (by unfold aj.eqR; simp only[p0,cond_true]),S.E⟩
 ·refine wp_skip<|dP _ _<|wp_seq_k fun _ fZ=>aiG fun _ fU=>adr S 26 [.mem 1 29,.mem 0 29,.mem 1 30,.mem 0 30,.mem 1 31,.mem 0 31,.mem 1 32,.mem 0 32] [(78,.bool ((((((a.eY.toNat:Int)) != (b.eY.toNat:Int))||((a.blend) != b.blend))||(!(a.isolated==b.isolated)))||(!(a.dN==b.dN))))] fun ac S=>aiF (fU _ _ ?_)
  refine aiI S (fun oD=>?_) (fun oD=>?_)
  ·refine aiG fun _ iR=>adr S 1 [] [(4,.bool false)] fun ac S=>aiF<|iR _ _<|Vp.rt ?_
   have p0:=gu
   have p1:=oD
   refine aiH S Tryz.results28 ?_
   exact⟨aB (by unfold aj.eqR; simp only[p0,p1,cond_true,cond_false]),S.E⟩
  ·refine wp_skip<|fZ _ _<|aiG fun _ ig=>adr S 4 [.mem 1 27,.mem 0 27] [(80,a.cs),(82,b.cs)] fun ac S=>aiM S 83 (Aa (l:=a.clip) (m:=b.clip) (h.1.2.2.2.2.1.1.below S.E) (h'.1.2.2.2.2.1.1.below S.E)) fun ac u JD S=>aiT S 36 [.mem 1 33,.mem 0 33,.mem 1 35,.mem 0 35,.mem 1 42,.mem 0 42,.mem 1 36,.mem 0 36,.mem 1 43,.mem 0 43] [(_,_,(decide (a.clip=b.clip)),.bool (decide (a.path=b.path))),(_,_,((decide (a.clip=b.clip))&&(decide (a.path=b.path))),.bool (bQ a.fill b.fill)),(_,_,(((decide (a.clip=b.clip))&&(decide (a.path=b.path)))&&(bQ a.fill b.fill)),.bool (bQ a.stroke b.stroke)),(_,_,((((decide (a.clip=b.clip))&&(decide (a.path=b.path)))&&(bQ a.fill b.fill))&&(bQ a.stroke b.stroke)),.bool (a.style.eq b.style)),(_,_,(((((decide (a.clip=b.clip))&&(decide (a.path=b.path)))&&(bQ a.fill b.fill))&&(bQ a.stroke b.stroke))&&(a.style.eq b.style)),.bool (a.img.eq b.img))] [(4,.bool ((((((decide (a.clip=b.clip))&&(decide (a.path=b.path)))&&(bQ a.fill b.fill))&&(bQ a.stroke b.stroke))&&(a.style.eq b.style))&&(a.img.eq b.img)))] ⟨fun u hC g=>Aa (l:=a.path) (m:=b.path) (h.1.2.2.2.2.2.2.2.1.1.below (Ext.trans' S.E hC)) (h'.1.2.2.2.2.2.2.2.1.1.below (Ext.trans' S.E hC)),fun u hC g=>vW (l:=a.fill) (m:=b.fill) (K:=K) (h.1.2.2.2.2.2.2.2.2.2.1.below (Ext.trans' S.E hC)) (h'.1.2.2.2.2.2.2.2.2.2.1.below (Ext.trans' S.E hC)) h.2.2.1 h'.2.2.1 h.2.2.2.2.1 h.2.2.2.2.2,fun u hC g=>vW (l:=a.stroke) (m:=b.stroke) (K:=K) (h.1.2.2.2.2.2.2.2.2.2.2.2.1.below (Ext.trans' S.E hC)) (h'.1.2.2.2.2.2.2.2.2.2.2.2.1.below (Ext.trans' S.E hC)) h.2.2.2.1 h'.2.2.2.1 h.2.2.2.2.1 h.2.2.2.2.2,fun u hC g=>EF (y1:=a.style) (y2:=b.style) (h.1.2.2.2.2.2.2.2.2.2.2.1.below (Ext.trans' S.E hC)) (h'.1.2.2.2.2.2.2.2.2.2.2.1.below (Ext.trans' S.E hC)),fun u hC g=>Ad (y1:=a.img) (y2:=b.img) (h.1.2.2.2.2.2.2.2.2.2.2.2.2.1.below (Ext.trans' S.E hC)) (h'.1.2.2.2.2.2.2.2.2.2.2.2.2.1.below (Ext.trans' S.E hC)),trivial⟩ fun ac u Xm S=>aiF<|ig _ _<|Vp.rt ?_
   have p0:=gu
   have p1:=oD
   refine aiH S Tryz.results28 ?_
   exact⟨aB (by unfold aj.eqR; simp only[p0,p1,cond_false]),S.E⟩
end Go.Proofs.YtfmkkemfhjkajaaGreatDoor
