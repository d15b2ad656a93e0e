/- Pixels: the reference's decoder. -/
import Derived.Test.YtiafijffnejhoaaGreatDoorPk42
set_option maxHeartbeats 1600000
set_option maxRecDepth 100000
namespace Go.Sx
open Go.Proofs.YtiafijffnejhoaaGreatDoor Go.RowKit
variable{P:Program}{w0 w:World}{a:Act}{n:Nat}{l:List (Nat×Value)}{bl:List (Nat×List Value)}{vs:List dY}
theorem YM(S:St w0 a w n l bl vs)(k:Nat){fn:Func}{R:Ending→World→Prop}{r s b:Nat}{ty:TypeId}{A:List Value}{v u:Value}(hr:fn.results = #[.tmp s,.cell r ty])(hk:bl[k]?=some (b,A))(h:R (.returned (.tuple #[u,v])) w)
  (hv:Vp.ev l (.tmp r)=some (.pointer (some ⟨b,0,none⟩)):=by kernel_rfl) (hu:Vp.ev l (.tmp s)=some u:=by rfl) (hl:Ib P ty A=some v:=by kernel_rfl):bodyPost P fn R .ret a w:=by
 refine⟨S.s.defers,_,?_,h⟩;have h1:=S.s.ev hv;have h3:=S.s.ev hu;have h2:=S.var hk hl;unfold results;rw[hr];simp only[Act.eval,Array.getD_eq_getD_getElem?]at h1 h3;simp[h1,h3,asAddr,h2]
theorem YN(S:St w0 a w n l bl vs)(k k':Nat){fn:Func}{R:Ending→World→Prop}{r s b b':Nat}{ty ty':TypeId}{A A':List Value}{v u:Value}(hr:fn.results = #[.cell r ty,.cell s ty'])(hk:bl[k]?=some (b,A))(hk':bl[k']?=some (b',A'))(h:R (.returned (.tuple #[v,u])) w)
  (hv:Vp.ev l (.tmp r)=some (.pointer (some ⟨b,0,none⟩)):=by kernel_rfl) (hu:Vp.ev l (.tmp s)=some (.pointer (some ⟨b',0,none⟩)):=by kernel_rfl) (hl:Ib P ty A=some v:=by kernel_rfl) (hl':Ib P ty' A'=some u:=by kernel_rfl):bodyPost P fn R .ret a w:=by
 refine⟨S.s.defers,_,?_,h⟩;have h1:=S.s.ev hv;have h3:=S.s.ev hu;have h2:=S.var hk hl;have h4:=S.var hk' hl';unfold results;rw[hr];simp only[Act.eval,Array.getD_eq_getD_getElem?]at h1 h3;simp[h1,h3,asAddr,h2,h4]
end Go.Sx
namespace Go.Proofs.YtiafijffnejhoaaGreatDoor
open Go.RowKit
variable{α:Type}{K:Nat}
set_option linter.unusedVariables false
structure fK where
 a:Option Addr
 l:List UInt8
 c:Nat
 p:Nat
 bad:Bool
 pk:Bool
def fK.cells(s:fK):List Value:=[.slice s.a s.l.length s.c,.i s.p,.bool s.bad,.bool s.pk]
def fK.v(s:fK):Value := .agg s.cells.toArray
def fK.no:fK:=⟨none,[],0,0,true,false⟩
def fK.to(s:fK)(p:Nat):fK:=⟨s.a,s.l,s.c,p,false,s.pk⟩
def nK(w:World)(s:fK):Prop:=iT w (.slice s.a s.l.length s.c) s.l∧s.p≤s.l.length
theorem nK.below{w w':World}{s:fK}(h:nK w s)(hb:Ext w w'):nK w' s:=⟨h.1.below hb,h.2⟩
theorem nK.no(w:World):nK w .no:=⟨jm _ _ _,ahh _⟩
theorem nK.to{w:World}{s:fK}{p:Nat}(h:nK w s)(hp:p≤s.l.length):nK w (s.to p):=⟨h.1,hp⟩
def fK.cB(s:fK)(m:Nat):Bool:=s.bad||((En.qo s.l (s.p:Int)).2.2 != 0||decide (m<(En.qo s.l (s.p:Int)).1))
def fK.cV(s:fK)(m:Nat):Nat:=if s.cB m=true then 0 else (En.qo s.l (s.p:Int)).1
def fK.cS(s:fK)(m:Nat):fK:=if s.cB m=true then .no else s.to (En.qo s.l (s.p:Int)).2.1
theorem nK.cS{w:World}{s:fK}{m:Nat}(h:nK w s):nK w (s.cS m):=by
 unfold fK.cS; split
 ·exact .no w
 exact h.to (TU h.2)
theorem fK.acG{s:fK}{m:Nat}:s.cV m≤m:=by
 unfold fK.cV; split
 ·omega
 rename_i h; unfold fK.cB at h; simp at h; omega
theorem fK.acH{s:fK}{k nx er m:Nat}(hu:En.qo s.l (s.p:Int)=(k,nx,er))(h:¬(s.bad=false∧er=0∧k≤m)):s.cB m=true∧s.cS m = .no∧s.cV m=0:=by
 have:s.cB m=true:=by
  unfold fK.cB; rw[hu];cases hb:s.bad
  ·rw[hb]at h; simp at h ⊢; omega
  rfl
 unfold fK.cS fK.cV; rw[ahf this,ahf this]; exact⟨this,rfl,rfl⟩
theorem fK.acI{s:fK}{k nx er m:Nat}(hu:En.qo s.l (s.p:Int)=(k,nx,er))(h:s.bad=false∧er=0∧k≤m):s.cB m=false∧s.cS m=s.to nx∧s.cV m=k:=by
 have:s.cB m=false:=by
  unfold fK.cB; rw[hu,h.1];obtain⟨-,rfl,h⟩:=h;simp; omega
 unfold fK.cS fK.cV; rw[this,hu]; exact⟨rfl,by simp,by simp⟩
def fK.fB(s:fK):Bool:=s.bad||decide (s.l.length<s.p+4)
def fK.fL(s:fK):List UInt8:=if s.fB=true then [0,0,0,0]else (s.l.drop s.p).take 4
def fK.fS(s:fK):fK:=if s.fB=true then .no else s.to (s.p+4)
theorem fK.TV{s:fK}(h:s.fB=true):s.fL=[0,0,0,0]∧s.fS = .no:=by unfold fK.fL fK.fS; rw[ahf h,ahf h]; exact⟨rfl,rfl⟩
theorem fK.f_ok{s:fK}(h:s.fB=false):s.bad=false∧s.p+4≤s.l.length∧s.fL=(s.l.drop s.p).take 4∧s.fS=s.to (s.p+4):=by
 unfold fK.fL fK.fS; rw[h]; unfold fK.fB at h; simp only[ah5,aiu]at h;exact⟨h.1,by omega,by simp,by simp⟩
theorem nK.fS{w:World}{s:fK}(h:nK w s):nK w s.fS:=by
 cases hb:s.fB
 ·rw[(fK.f_ok hb).2.2.2]; exact h.to (fK.f_ok hb).2.1
 rw[(fK.TV hb).2]; exact .no w
theorem PL{l:List UInt8}{p:Nat}(h:p+4≤l.length):(l.drop p).take 4=[l[p],l[p+1],l[p+2],l[p+3]]:=by
 rw[ahU (by omega),ahU (by omega),ahU (by omega),ahU (by omega)]; rfl
theorem yL{w:World}{s:fK}{n:Nat} :
  Calls Tryz.prog 51 #[s.v,.i n] w fun e w'=>e = .returned (s.to n).v∧Ext w w':=by
 skip;refine agX Tryz.func51 Tryz.ntmps51 fun ac S=>agS fun _ aX=>agT S 2 [.slice s.a s.l.length s.c,.i s.p,.bool s.bad,.bool s.pk] fun ac u b2 E3 hb4 S=>agT S 4 [.slice none 0 0,.i 0,.bool false,.bool false] fun ac u b5 E6 hb7 S=>agR<|aX _ _<|agS fun _ dU=>adr S 6 [.mem 1 0,.mem 1 3] [(10,.agg #[.slice s.a s.l.length s.c,.i n,.bool false,.bool s.pk])] fun S=>agW S 0 (off:=0) (cs:=[.slice s.a s.l.length s.c,.i n,.bool false,.bool s.pk]) rfl fun u C9 S=>agR<|dU _ _<|Sx.Cc S 0 Tryz.results51 rfl (v := .agg #[.slice s.a s.l.length s.c,.i n,.bool false,.bool s.pk]) ?_;exact⟨rfl,S.E⟩
theorem Ic{w:World}{s:fK}{m:Nat}(h:nK w s)(hm:m≤9223372036854775807) :
  Calls Tryz.prog 22 #[s.v,.i m] w fun e w'=>e = .returned (.tuple #[.i (s.cV m:Nat),(s.cS m).v])∧Ext w w':=by
 obtain⟨a,l,c,p,bad,pk⟩:=s;have hml:l.length≤9223372036854775807:=h.1.len;have hpl:p≤l.length:=h.2;refine agX Tryz.func22 Tryz.ntmps22 fun ac S=>agS fun _ aX=>agT S 2 [.slice a l.length c,.i p,.bool bad,.bool pk] fun ac u b2 E3 hb4 S=>adr S 1 [] [(4,.i 0)] fun S=>agT S 5 [.slice none 0 0,.i 0,.bool false,.bool false] fun ac u b5 E6 hb7 S=>agR<|aX _ _<|agS (fun _ dU=>?_);obtain⟨kk,nx,er,hu⟩:∃kk nx er,En.qo l (p:Int)=(kk,nx,er):=⟨_,_,_,rfl⟩;have hkb:kk<18446744073709551616:=by have:=Ey l (p:Int); rw[hu]at this; exact this
 refine adr S 4 [.mem 1 0,.mem 1 1] [(11,.slice a l.length c),(13,.i p)] fun S=>aiL S 14 ((by have hc:=zT (.slice a l.length c) l (p:Int) _ (fA (aK.below h.1 S.E)); rw[hu]at hc; exact hc)) fun ac S=>adr S 7 [] [(6,.int .u64 (kk:Int)),(7,.i nx),(8,.i er)] fun S=>agR<|dU _ _<|ag9 fun _ iP=>agS fun _ gI=>adr S 12 [.mem 1 2,.re 27 (.int .u64 (IntKind.u64.wrap (m:Int))) (.int .u64 (m:Int))] [(29,.bool ((bad||(((er:Int)) != 0))||(decide ((m:Int)<(kk:Int)))))] (hk:=⟨(wrap_u64 (by omega)),trivial⟩) fun S=>agR (gI _ _ ?_);refine agU S (fun jc=>?_) (fun jc=>?_)
 ·refine agS fun _ dP=>adr S 2 [] [(4,.i 0),(30,.agg #[.slice none 0 0,.i 0,.bool true,.bool false])] fun S=>agW S 0 (off:=0) (cs:=[.slice none 0 0,.i 0,.bool true,.bool false]) rfl fun u C13 S=>agR<|dP _ _<|ahj ?_;have hq:¬(bad=false∧er=0∧kk≤m):=by rintro⟨h1,h2,h3⟩; rw[h1]at jc; simp at jc<;>omega
  obtain⟨q1,q2,q3⟩:=fK.acH (s:=⟨a,l,c,p,bad,pk⟩) hu hq;refine Sx.YM S 0 Tryz.results22 rfl (v := .agg #[.slice none 0 0,.i 0,.bool true,.bool false]) (u := .i 0) ?_;exact⟨by rw[q2,q3]<;>rfl,S.E⟩
 refine aha<|iP _ _<|agS (fun _ fP=>?_);have hq:bad=false∧er=0∧kk≤m:=by cases bad<;>simp at jc ⊢ <;> omega
 refine adr S 4 [.re 32 (.i (IntKind.i64.wrap (kk:Int))) (.i kk),.mem 1 0] [(32,.i kk),(33,.agg #[.slice a l.length c,.i p,.bool bad,.bool pk]),(34,.i nx)] (hk:=⟨(Sx.iL rfl (by omega)),trivial⟩) fun S=>ag0 S 35 (yL (s:=⟨a,l,c,p,bad,pk⟩) (n:=nx)) fun ac u CO S=>adr S 1 [] [(4,.i kk)] fun S=>agW S 0 (off:=0) (cs:=[.slice a l.length c,.i nx,.bool false,.bool pk]) rfl fun u Zw S=>agR<|fP _ _<|ahj ?_;obtain⟨q1,q2,q3⟩:=fK.acI (s:=⟨a,l,c,p,bad,pk⟩) hu hq;refine Sx.YM S 0 Tryz.results22 rfl (v := .agg #[.slice a l.length c,.i nx,.bool false,.bool pk]) (u := .i kk) ?_;exact⟨by rw[q2,q3]<;>rfl,S.E⟩
theorem Ky{w:World}{s:fK}(h:nK w s) :
  Calls Tryz.prog 23 #[s.v] w fun e w'=>∃q:aO,Px.pb q=s.fL∧e = .returned (.tuple #[.agg q.cells.toArray,s.fS.v])∧Ext w w':=by
 obtain⟨a,l,c,p,bad,pk⟩:=s;have hml:l.length≤9223372036854775807:=h.1.len;have hpl:p≤l.length:=h.2;refine agX Tryz.func23 Tryz.ntmps23 fun ac S=>agS fun _ aX=>agT S 1 [.slice a l.length c,.i p,.bool bad,.bool pk] fun ac u b2 E3 hb4 S=>agT S 2 [.int .u8 0,.int .u8 0,.int .u8 0,.int .u8 0] fun ac u b5 E6 hb7 S=>agT S 3 [.slice none 0 0,.i 0,.bool false,.bool false] fun ac u b8 E9 yY S=>agR<|aX _ _<|ag9 fun _ dB=>agS fun _ dP=>adr S 11 [.mem 2 2,.mem 2 0,.mem 2 1,.re 12 (.i (IntKind.i64.wrap ((l.length:Int)-(p:Int)))) (.i (l.length-p:Nat))] [(14,.bool (bad||(decide (((l.length-p:Nat):Int)<4))))] (hk:=⟨(Sx.iL (by have:=h.2; omega) (by omega)),trivial⟩) fun S=>agR (dP _ _ ?_);refine agU S (fun hc13=>?_) (fun hc13=>?_)
 ·refine agS fun _ fP=>adr S 2 [] [(15,.agg #[.int .u8 0,.int .u8 0,.int .u8 0,.int .u8 0]),(16,.agg #[.slice none 0 0,.i 0,.bool true,.bool false])] fun S=>agW S 1 (off:=0) (cs:=[.int .u8 0,.int .u8 0,.int .u8 0,.int .u8 0]) rfl fun u Zm S=>agW S 0 (off:=0) (cs:=[.slice none 0 0,.i 0,.bool true,.bool false]) rfl fun u Zw S=>agR<|fP _ _<|ahj ?_;have hbad:fK.fB ⟨a,l,c,p,bad,pk⟩=true:=by unfold fK.fB; show(bad||decide (l.length<p+4))=_; cases bad<;>simp at hc13 ⊢; omega
  refine Sx.YN S 1 0 Tryz.results23 rfl rfl (v := .agg #[.int .u8 0,.int .u8 0,.int .u8 0,.int .u8 0]) (u := .agg #[.slice none 0 0,.i 0,.bool true,.bool false]) ?_;exact⟨⟨0,0,0,0⟩,by rw[(fK.TV hbad).1]; rfl,by rw[(fK.TV hbad).2]<;>rfl,S.E⟩
 refine aha<|dB _ _<|ag9 (fun _ iC=>?_);have hok:fK.fB ⟨a,l,c,p,bad,pk⟩=false:=by unfold fK.fB; show(bad||decide (l.length<p+4))=_; cases bad<;>simp at hc13 ⊢; omega
 obtain⟨ho1,ho2,ho3,ho4⟩:=fK.f_ok hok;replace ho2:p+4≤l.length:=ho2;have h1:iT w (.slice a l.length c) l:=h.1;obtain⟨-,bk,o,rfl,-,-⟩:=Ie h1 (n:=4) ho2 (by omega);have acJ:p<l.length:=by omega
 obtain⟨x25,aeY,aaB,aeZ⟩:=Vp.PK h1 (fun _=>rfl) (p) acJ;have S:=S.view0 aaB aeZ;have acK:(p+1)<l.length:=by omega
 obtain⟨x33,hx31,ae0,ae1⟩:=Vp.PK h1 (fun _=>rfl) ((p+1)) acK;have S:=S.view0 ae0 ae1;have acL:(p+2)<l.length:=by omega
 obtain⟨x41,hx39,aat,ae2⟩:=Vp.PK h1 (fun _=>rfl) ((p+2)) acL;have S:=S.view0 aat ae2;have acM:(p+3)<l.length:=by omega
 obtain⟨x49,ae3,aaz,ae4⟩:=Vp.PK h1 (fun _=>rfl) ((p+3)) acM;have S:=S.view0 aaz ae4;refine ag2 S 33 [.mem 2 0,.mem 2 1,.idx p l.length,.mem 6 0,.mem 2 0,.mem 2 1,.re 27 (.i (IntKind.i64.wrap ((p:Int)+1))) (.i (p+1:Nat)),.idx (p+1) l.length,.mem 5 0,.mem 2 0,.mem 2 1,.re 34 (.i (IntKind.i64.wrap ((p:Int)+2))) (.i (p+2:Nat)),.idx (p+2) l.length,.mem 4 0,.mem 2 0,.mem 2 1,.re 41 (.i (IntKind.i64.wrap ((p:Int)+3))) (.i (p+3:Nat)),.idx (p+3) l.length,.mem 3 0,.mem 2 0,.mem 2 1,.re 48 (.i (IntKind.i64.wrap ((p:Int)+4))) (.i (p+4:Nat))] [(_,_,true,.agg #[.slice (some ⟨bk,o,none⟩) l.length c,.i (p+4:Nat),.bool false,.bool pk])] [(44,.agg #[fO x25,fO x33,fO x41,fO x49]),(49,.agg #[.slice (some ⟨bk,o,none⟩) l.length c,.i (p+4:Nat),.bool false,.bool pk])] ⟨fun u hC g=>yL (s:=⟨some ⟨bk,o,none⟩,l,c,p,bad,pk⟩) (n:=p+4),trivial⟩ (hk:=⟨acJ,(Sx.iL (by omega) (by omega)),acK,(Sx.iL (by omega) (by omega)),acL,(Sx.iL (by omega) (by omega)),acM,(Sx.iL (by omega) (by omega)),trivial⟩) fun ac u Dq S=>agW S 1 (off:=0) (cs:=[fO x25,fO x33,fO x41,fO x49]) rfl fun u C51 S=>agW S 0 (off:=0) (cs:=[.slice (some ⟨bk,o,none⟩) l.length c,.i (p+4:Nat),.bool false,.bool pk]) rfl fun u C52 S=>agR<|iC _ _<|ahj ?_;refine Sx.YN S 1 0 Tryz.results23 rfl rfl (v := .agg #[fO x25,fO x33,fO x41,fO x49]) (u := .agg #[.slice (some ⟨bk,o,none⟩) l.length c,.i (p+4:Nat),.bool false,.bool pk]) ?_;exact⟨⟨x25,x33,x41,x49⟩,by rw[ho3,PL ho2,aeY,hx31,hx39,ae3]; rfl,by rw[ho4]<;>rfl,S.E⟩
end Go.Proofs.YtiafijffnejhoaaGreatDoor
