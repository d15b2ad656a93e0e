/- Chapter 7's walks for seats that hold more: the -/
import Derived.Test.YtodpgjjgaddkeaaGreatDoorPk21
set_option maxHeartbeats 1600000
set_option maxRecDepth 100000
set_option linter.unusedVariables false
set_option linter.unusedSimpArgs false
namespace Go.Proofs.YtodpgjjgaddkeaaGreatDoor
open _root_.Go.Proofs.Tryz
section
open Go.RowKit
variable{α:Type}
theorem WH(v:Value)(l:List UInt8)(w:World)(hv:bJ w v l)(hlen:l.length≤140737488355328) :
  Calls prog 61 #[v] w fun e w'=>∃v',e = .returned v'∧w'.ownsRow w.heap.size 5 1 v' l.length (l.map gu)∧Below w.heap.size w w':=by
 have hr:=hv.raw (fun _=>rfl);obtain⟨a,cap,rfl,hm,ha⟩:=hv;rcases a with _ | ad
 ·have hz:l=[]∧cap=0:=by
   rcases ha with ⟨h,h0⟩ | ⟨b,o,h,_⟩
   ·exact⟨h,h0 rfl⟩
   cases h
  obtain⟨rfl,rfl⟩:=hz;have hnil:=Lib.run_eql_slice_nil (P:=prog) w 53 5 none 0 0 0 0 underlying53;clear ha hr;go_enter func61,ntmps61
  go_wp2
  go_ret
  exact⟨_,rfl,aB8 _ _ _ _,az5 _ _⟩
 have hnil:=Lib.run_eql_slice_nil (P:=prog) w 53 5 (some ad) l.length cap 0 0 underlying53;have hown:=aBP (base:=w.heap.size) (e:=5) (size:=1) w #[] 0 (azJ _) (azQ _) rfl;have hr:=CG hr (.cells #[] 5);have h63:0+l.length≤maxLen:=by
  rcases ha with ⟨rfl,_⟩ | ⟨b,o,_,_,h,_⟩
  ·simp
  omega
 have hby:(0+l.length)*1≤140737488355328:=by omega
 clear ha;go_enter func61,ntmps61
 go_wp2_with (at_builtin; refine bM rfl _ _ _ rfl yX w.heap.size hown rfl hr rfl h63 hby (by simp) ?_; intro v' w' hown' hg)
 go_ret
 simp only[aAD,aAH]at hown';exact⟨_,rfl,by simpa using hown',((az5 _ _).alloc (azJ _) _).grown hg (by simp) (by simp[Value.ownBlock])⟩
theorem Yy(l:List UInt8):fP.crc [l]=fP.update 0 l:=rfl
theorem Yz(x:UInt32):(x.toNat:Int)/(65536:Int)=((x>>>16).toNat:Int):=by
 rw[aCl]; simp[Nat.shiftRight_eq_div_pow]
theorem YA(x:UInt32):(x.toNat:Int)/(16777216:Int)=((x>>>24).toNat:Int):=by
 rw[aCl]; simp[Nat.shiftRight_eq_div_pow]
theorem aaN(x:UInt32):(fP.le4 x).map gu =
  [.u ((x.toNat:Int)%256),.u ((x.toNat:Int)/256%256),.u ((x.toNat:Int)/65536%256),.u ((x.toNat:Int)/16777216%256)]:=by
 simp only[fP.le4,aAu,aAQ,gu];rw[aci,Yz,YA,vZ,vZ,vZ,vZ]
theorem agU(x:UInt32)(w:World)(e:TypeId):dP (w.alloc (.cells #[.u ((x.toNat:Int)%256),.u ((x.toNat:Int)/256%256),.u ((x.toNat:Int)/65536%256),.u ((x.toNat:Int)/16777216%256)] e)) 1
  (.slice (some ⟨w.heap.size,0,none⟩) 4 4) 4 ((fP.le4 x).map gu):=by
 rw[aaN];exact Nq w _ e 4 1 rfl (by unfold maxLen; omega) (by intro u hu; simp at hu; rcases hu with rfl | rfl | rfl | rfl<;>rfl)
theorem wU(v:Value)(l:List UInt8)(w:World)(hv:bJ w v l)(hlen:l.length≤100000000000) :
  Calls prog 32 #[v] w fun e w'=>∃v',e = .returned v' ∧
   w'.ownsRow w.heap.size 5 1 v' (l++fP.le4 (fP.update 0 l)).length ((l++fP.le4 (fP.update 0 l)).map gu)∧Below w.heap.size w w':=by
 obtain⟨a,cap,rfl⟩:∃a cap,v = .slice a l.length cap:=by obtain⟨a,cap,h,_⟩:=hv; exact⟨a,cap,h⟩
 have hp:=XW (R:=bJ) w (.slice a l.length cap) l 53 (hv.below (aF _ _));have hv1:=hv.below (aF w (.cells #[.slice a l.length cap] 53));have h63:l.length+4≤maxLen:=by unfold maxLen; omega
 have hby:(l.length+4)*1≤140737488355328:=by omega
 go_enter func32,ntmps32
 go_wp2_with fail
 refine(crc32 _ _ _ hp).mono ?_;rintro e w' ⟨rfl,rfl⟩;rw[Yy];go_wp2_with fail
 refine(WH _ _ _ hv1 (by omega)).mono ?_;rintro e w2 ⟨v2,rfl,hown,hb2⟩;have hb2':Below w.heap.size w w2:=(aF _ _).trans (hb2.mono (by simp));generalize hx:fP.update 0 l=x;have HX:=azF hx;clear hx;have hr:=agU x w2 5;have hown':=(aY hown (show w.heap.size≤_ by simp)).alloc (.cells #[.u ((x.toNat:Int)%256),.u ((x.toNat:Int)/256%256),.u ((x.toNat:Int)/65536%256),.u ((x.toNat:Int)/16777216%256)] 5);have hsz:w.heap.size≤w2.heap.size:=by have:=hb2.size; simp at this; omega
 have hsz':w.heap.size≤(w2.alloc (.cells #[.u ((x.toNat:Int)%256),.u ((x.toNat:Int)/256%256),.u ((x.toNat:Int)/65536%256),.u ((x.toNat:Int)/16777216%256)] 5)).heap.size:=by simp; omega
 clear hown;go_wp2_with (at_builtin; refine bM rfl _ _ _ rfl yX w.heap.size hown' rfl hr rfl h63 hby hsz' ?_; intro v' w' hown' hg)
 go_ret
 refine⟨_,rfl,by rw[HX.out]; simpa[fP.le4]using hown',(hb2'.alloc hsz _).grown hg hsz' ?_⟩;exact fun k hk=>(World.ownsRow.lt ‹_› k hk).1
theorem Sr{c y:UInt8}{z:Int}(hz:z=(y.toNat:Int)):((c.toNat:Int) != z)=(c != y):=by
 subst hz;rw[aAV,bne_iff_ne,bne_iff_ne];constructor
 ·intro h e; exact h (by rw[e])
 intro h e; exact h (aBO.1 (by omega))
theorem aiv(x:UInt32):(x.toNat:Int)%(256:Int)=(x.toUInt8.toNat:Int):=vZ x
theorem aiw(x:UInt32):(x.toNat:Int)/(256:Int)%(256:Int)=((x>>>8).toUInt8.toNat:Int):=by rw[aci,vZ]
theorem aix(x:UInt32):(x.toNat:Int)/(65536:Int)%(256:Int)=((x>>>16).toUInt8.toNat:Int):=by rw[Yz,vZ]
theorem aiy(x:UInt32):(x.toNat:Int)/(16777216:Int)%(256:Int)=((x>>>24).toUInt8.toNat:Int):=by rw[YA,vZ]
theorem four(l:List UInt8)(m:Nat)(h:l.length=m+4):∃c0 c1 c2 c3,l.drop m=[c0,c1,c2,c3]:=by
 have e:(l.drop m).length=4:=by simp; omega
 match l.drop m,e with
 | [c0,c1,c2,c3],_=>exact⟨c0,c1,c2,c3,rfl⟩
def aaO(c0 c1 c2 c3:UInt8)(x:UInt32)(k:Nat):Prop:=[c0,c1,c2,c3].take k=(fP.le4 x).take k
theorem OE(v:Value)(l:List UInt8)(w:World)(hv:bJ w v l)(h:l.length<4) :
  Calls prog 43 #[v] w fun e w'=>e = .returned (.tuple #[.sn,.i 4])∧w=w':=by
 obtain⟨a,cap,rfl⟩:∃a cap,v = .slice a l.length cap:=by obtain⟨a,cap,h,_⟩:=hv; exact⟨a,cap,h⟩
 clear hv;go_enter func43,ntmps43
 go_wp2
 go_ret2
 exact⟨rfl,rfl⟩
theorem Sv(v:Value)(l:List UInt8)(m:Nat)(w:World)(hv:bJ w v l)(hlen:l.length=m+4)(hm:m≤100000000000) :
  Calls prog 43 #[v] w fun e w'=>∃v' k,e = .returned (.tuple #[v',.i k])∧Below w.heap.size w w' ∧
   (l.drop m=fP.le4 (fP.update 0 (l.take m))→k=0∧bJ w' v' (l.take m))∧(l.drop m≠fP.le4 (fP.update 0 (l.take m))→k=19∧v' = .sn):=by
 obtain⟨a,cap,rfl,hcap,ha⟩:=hv;rcases ha with ⟨rfl,_⟩ | ⟨b,o,rfl,hb,hlc,hc⟩
 ·simp at hlen
 have hr:=acg (n:=m) hb hlc hcap (by omega) hc;have hp:=XW (R:=bJ) w (.slice (some ⟨b,o,none⟩) m cap) (l.take m) 53 (hr.below (aF _ _));have hr1:=hr.below (aF w (.cells #[.slice (some ⟨b,o,none⟩) m cap] 53));have hlt:m≤cap:=by omega
 have hne:¬m=cap:=by omega
 have hmc:m<cap:=by omega
 go_enter func43,ntmps43
 go_wp2_with fail
 refine(crc32 _ _ _ hp).mono ?_;rintro e w' ⟨rfl,rfl⟩;rw[Yy];go_wp2_with fail
 generalize hx:fP.update 0 (l.take m)=x;have HX:=azF hx;clear hx hr;obtain⟨c0,c1,c2,c3,hd⟩:=four l m hlen;have hcd:∀k (h:k<4),(w.alloc (.cells #[.slice (some ⟨b,o,none⟩) m cap] 53)).cell? ⟨b,o+m+k,none⟩=some (gu ([c0,c1,c2,c3][k])):=by
  intro k hk;rw[World.cell?_alloc_past _ _ _ hb,aBD,hc (m+k) (by omega)];simp only[←hd];rw[List.getElem_drop]
 have HC:=azF hcd;have HD:=azF hd;clear hcd hc hd;go_loop [22] (fun i=>∃k:Nat,k≤4∧i = .i k∧aaO c0 c1 c2 c3 x k) (fun i=>4-(intOf i).toNat)
 case atStart=>exact⟨0,by omega,rfl,rfl⟩
 case round =>
  obtain⟨k,hk,rfl,heq⟩:=hrel;have HE:=azF heq;clear heq;have hk':k=0∨k=1∨k=2∨k=3∨k=4:=by omega
  rcases hk' with rfl | rfl | rfl | rfl | rfl
  ·have hck:=HC.out 0 (by omega);simp only[aBz,aCj]at hck;go_wp2
   ·have h := ‹((c0.toNat:Int) != _)=true›;rw[Sr (aiv x)]at h;go_ret2
    exact⟨_,_,rfl,aF _ _,fun e=>by rw[HD.out,HX.out]at e; simp[fP.le4]at e; simp[e]at h,fun _=>⟨rfl,rfl⟩⟩
   have h := ‹((c0.toNat:Int) != _)=false›;rw[Sr (aiv x)]at h;go_round
   case rel=>exact⟨1,by omega,rfl,by simp[aaO,fP.le4]at h ⊢; exact h⟩
   case measure=>simp[intOf]
  ·have hck:=HC.out 1 (by omega);simp only[aCj,List.getElem_cons_succ]at hck;go_wp2
   ·have h := ‹((c1.toNat:Int) != _)=true›;rw[Sr (aiw x)]at h;go_ret2
    exact⟨_,_,rfl,aF _ _,fun e=>by rw[HD.out,HX.out]at e; simp[fP.le4]at e; simp[e]at h,fun _=>⟨rfl,rfl⟩⟩
   have h := ‹((c1.toNat:Int) != _)=false›;rw[Sr (aiw x)]at h;go_round
   case rel=>exact⟨2,by omega,rfl,by have:=HE.out; simp[aaO,fP.le4]at h this ⊢; exact⟨this,h⟩⟩
   case measure=>simp[intOf]
  ·have hck:=HC.out 2 (by omega);simp only[aCj,List.getElem_cons_succ]at hck;go_wp2
   ·have h := ‹((c2.toNat:Int) != _)=true›;rw[Sr (aix x)]at h;go_ret2
    exact⟨_,_,rfl,aF _ _,fun e=>by rw[HD.out,HX.out]at e; simp[fP.le4]at e; simp[e]at h,fun _=>⟨rfl,rfl⟩⟩
   have h := ‹((c2.toNat:Int) != _)=false›;rw[Sr (aix x)]at h;go_round
   case rel=>exact⟨3,by omega,rfl,by have:=HE.out; simp[aaO,fP.le4]at h this ⊢; exact⟨this.1,this.2,h⟩⟩
   case measure=>simp[intOf]
  ·have hck:=HC.out 3 (by omega);simp only[aCj,List.getElem_cons_succ]at hck;go_wp2
   ·have h := ‹((c3.toNat:Int) != _)=true›;rw[Sr (aiy x)]at h;go_ret2
    exact⟨_,_,rfl,aF _ _,fun e=>by rw[HD.out,HX.out]at e; simp[fP.le4]at e; simp[e]at h,fun _=>⟨rfl,rfl⟩⟩
   have h := ‹((c3.toNat:Int) != _)=false›;rw[Sr (aiy x)]at h;go_round
   case rel=>exact⟨4,by omega,rfl,by have:=HE.out; simp[aaO,fP.le4]at h this ⊢; exact⟨this.1,this.2.1,this.2.2,h⟩⟩
   case measure=>simp[intOf]
  have e:l.drop m=fP.le4 (fP.update 0 (l.take m)):=by
   rw[HD.out,HX.out]; have:=HE.out; simpa[aaO,fP.le4]using this
  have HF:=azF e;clear e;go_wp2_with fail
  refine(WH _ _ _ hr1 (by simp; omega)).mono ?_;rintro e w2 ⟨v2,rfl,hown,hb2⟩;have hrow:=aV hown;clear hown;go_wp2_with fail
  go_ret2
  exact⟨_,_,rfl,(aF _ _).trans (hb2.mono (by simp)),fun _=>⟨rfl,hrow⟩,fun h=>(h HF.out).elim⟩
end
section
open Go.RowKit
variable{α:Type}{K:Nat}
def dW(L:List Int):List UInt8:=L.flatMap fun x=>En.dV 10 (En.zig x)
theorem aaP{L:List Int}{k:Nat}{x:Int}(hk:k<L.length)(hx:L[k]=x):dW (L.take (k+1))=dW (L.take k)++En.dV 10 (En.zig x):=by
 unfold dW;rw[aAJ hk,hx,aBm]; simp
theorem iG(L:List Int):(dW L).length≤10*L.length:=by
 induction L with
 | nil=>simp[dW]
 | cons x L ih=>unfold dW at *; rw[aAO,azL,aAn]; have:=En.iE 10 (En.zig x); omega
abbrev aec (w:World)(v:Value)(L:List Int):Prop:=aI 1 (fun x:Int=>[.i x]) w v L
theorem iO{w:World}{v:Value}{L:List Int}(h:aec w v L)(hb:∀x∈L,I64 x)(hn:L.length≤1000000) :
  Calls prog 53 #[v] w fun e w'=>∃v',e = .returned v'∧OwnB w.heap.size w' v' (dW L)∧Ext w w':=by
 obtain⟨a,cap,rfl⟩:=h.shape;have hmax:L.length≤9223372036854775807:=h.len;refine aze func53 ntmps53 (fun S=>?_);have R:=aAo S;have R:=Si R;refine azw S (ι:=Nat×Value) (fun p a' w'=>p.1≤L.length∧(True)∧Sx.Rw w w' [] [⟨5,1,p.2,(dW (L.take p.1)).length,(dW (L.take p.1)).map gu⟩]∧Sx.St w a' w' 18 [(0,.slice a L.length cap),(2,.sn),(3,p.2),(6,.slice a L.length cap),(7,.i L.length),(8,.i p.1)] [] []) (fun p=>L.length-p.1) (0,(.sn)) (fun S=>⟨azQ _,trivial,R,S.sn⟩) ?_;rintro⟨k,v⟩ ac u gW eH hI;try dsimp only at hI
 obtain⟨hk,hR,R,S⟩:=hI;refine azx S fun S=>azb S (decide ((k:Int)<(L.length:Int))) (fun nJ S=>?_) (fun nJ S=>?_)
 ·have sO:k<L.length:=by have:=azZ nJ; omega
  obtain⟨b10,o11,rfl,x16,yU,vM,Nh⟩:=aAe h (fun _=>rfl) (k) sO;have S:=S.view0 vM Nh;refine adr S 5 [] [.idx k L.length,.mem 0 0] (hk:=⟨sO,trivial⟩) fun S=>azv S (yS x16 _ (hb x16 (by rw[←yU]; exact aAc _)).1 (hb x16 (by rw[←yU]; exact aAc _)).2) (fun v14 u arA yV S=>?_);have hvl:=iG (L.take k);rw[aBa]at hvl;have hu9:(En.dV 10 (En.zig x16)).length≤10:=En.iE 10 _;obtain⟨R,Y19⟩:=R.bP S (az7 yV);refine azl S fun S=>Sx.app S R 0 15 rfl yX (jE (arA)) (by show(dW (L.take k)).length+(En.dV 10 (En.zig x16)).length≤9223372036854775807; omega) (by show((dW (L.take k)).length+(En.dV 10 (En.zig x16)).length)*1≤140737488355328; omega) fun ac u v20 X21 R S=>azr S fun S=>adr S 3 [] [.re 16 (.i (IntKind.i64.wrap ((k:Int)+1))) (.i (k+1:Nat))] (hk:=⟨azt (by omega),trivial⟩) fun S=>azy S gW (fun S=>?_);exact eH _ _ ((k+1),v20) ⟨by omega,trivial,R.as (show [(⟨5,1,v20,((dW (L.take k)).length+(En.dV 10 (En.zig x16)).length),((dW (L.take k)).map gu++(En.dV 10 (En.zig x16)).map gu)⟩:Sx.Row)]=[⟨5,1,v20,(dW (L.take (k+1))).length,(dW (L.take (k+1))).map gu⟩] by rw[aaP sO yU]; simp),S.sn⟩ (by show _-_<_-_; omega)
 refine ay9 S v (fun S=>?_);exact⟨_,rfl,by have:=R.own _ azV; rw[aAp (by have:=az4 nJ; omega)]at this; exact this,S.E⟩
theorem uU{w:World}{p:bC} :
  Calls prog 54 #[.agg p.cells.toArray] w fun e w'=>∃v,e = .returned v∧OwnB w.heap.size w' v (Px.pb p)∧Ext w w':=by
 skip;refine aze func54 ntmps54 fun S=>azh S p.cells (fun u b2 E3 hb4 S=>?_);have R:=aAo S;refine adr S 9 [] [.mem 0 0,.mem 0 1,.mem 0 2,.mem 0 3] fun S=>azl S fun S=>Sx.newRow S R 11 4 5 1 p.cells fun ac u v6 E7 X8 R S=>azr S fun S=>ay9 S v6 (fun S=>?_);exact⟨_,rfl,R.own _ azV,S.E⟩
theorem WI{l:List UInt8}{p:Nat}(hp:p≤l.length):(En.xO l (p:Int)).2.1≤l.length:=by
 cases h:En.xO l (p:Int)with
 | mk k r =>
  obtain⟨x,er⟩:=r;by_cases he:er=0
  ·subst he; obtain⟨c,-,-,h2,-⟩:=Px.ok1 hp h; exact h2
  rw[Px.WE hp]at h;split at h
  ·simp only[azP]at h; omega
  simp only[azP]at h; show x≤_; omega
def riB(l:List UInt8)(p:Nat)(bad:Bool):Bool:=bad||(En.vat l (p:Int)).2.2 != 0
def riP(l:List UInt8)(p:Nat)(bad:Bool):Nat:=if riB l p bad=true then p else (En.vat l (p:Int)).2.1
def riV(l:List UInt8)(p:Nat)(bad:Bool):Int:=if riB l p bad=true then 0 else (En.vat l (p:Int)).1
theorem aku{l:List UInt8}{p:Nat}{bad:Bool}(hp:p≤l.length):riP l p bad≤l.length:=by
 unfold riP; split
 ·exact hp
 exact WI hp
theorem aed{l:List UInt8}{p:Nat}:I64 (En.vat l (p:Int)).1:=by
 have:=En.adl (n:=(En.xO l (p:Int)).1) (Ws l p);exact this
theorem akv{l:List UInt8}{p nx er:Nat}{x:Int}{bad:Bool}(hu:En.vat l (p:Int)=(x,nx,er))(h:(bad || !decide ((er:Int)=0))=true):riB l p bad=true∧riP l p bad=p∧riV l p bad=0:=by
 have:riB l p bad=true:=by
  unfold riB; rw[hu];cases bad
  ·simp at h ⊢; omega
  rfl
 unfold riP riV; rw[azI this,azI this]; exact⟨this,rfl,rfl⟩
theorem aiz{l:List UInt8}{p nx er:Nat}{x:Int}{bad:Bool}(hu:En.vat l (p:Int)=(x,nx,er))(h:(bad || !decide ((er:Int)=0))=false):bad=false∧riB l p bad=false∧riP l p bad=nx∧riV l p bad=x:=by
 have:bad=false∧riB l p bad=false:=by
  unfold riB; rw[hu];cases bad
  ·simp at h ⊢; omega
  simp at h
 unfold riP riV; rw[this.2,hu]; exact⟨this.1,rfl,by simp,by simp⟩
def rcB(l:List UInt8)(p:Nat)(bad:Bool):Bool:=bad||((En.xO l (p:Int)).2.2 != 0||decide (l.length-(En.xO l (p:Int)).2.1<(En.xO l (p:Int)).1))
def rcP(l:List UInt8)(p:Nat)(bad:Bool):Nat:=if rcB l p bad=true then p else (En.xO l (p:Int)).2.1
def rcV(l:List UInt8)(p:Nat)(bad:Bool):Nat:=if rcB l p bad=true then 0 else (En.xO l (p:Int)).1
theorem akw{l:List UInt8}{p:Nat}{bad:Bool}(hp:p≤l.length):rcP l p bad≤l.length:=by
 unfold rcP; split
 ·exact hp
 exact WI hp
theorem akx{l:List UInt8}{p:Nat}{bad:Bool}:rcV l p bad≤l.length:=by
 unfold rcV; split
 ·omega
 rename_i h; unfold rcB at h; simp at h; omega
theorem aky{l:List UInt8}{p k nx er:Nat}{bad:Bool}(hu:En.xO l (p:Int)=(k,nx,er))(h:¬(bad=false∧er=0∧k≤l.length-nx)):rcB l p bad=true∧rcP l p bad=p∧rcV l p bad=0:=by
 have:rcB l p bad=true:=by
  unfold rcB; rw[hu];cases bad
  ·simp at h ⊢; omega
  rfl
 unfold rcP rcV; rw[azI this,azI this]; exact⟨this,rfl,rfl⟩
theorem aiA{l:List UInt8}{p k nx er:Nat}{bad:Bool}(hu:En.xO l (p:Int)=(k,nx,er))(h:bad=false∧er=0∧k≤l.length-nx):rcB l p bad=false∧rcP l p bad=nx∧rcV l p bad=k:=by
 have:rcB l p bad=false:=by
  unfold rcB; rw[hu];obtain⟨rfl,rfl,h⟩:=h;simp; omega
 unfold rcP rcV; rw[this,hu]; exact⟨rfl,by simp,by simp⟩
theorem kR(v u:Value)(l m:List UInt8)(w:World)(hv:bJ w v l)(hu:bJ w u m) :
  Calls prog 50 #[v,u] w fun e w'=>e = .returned (.bool (l==m))∧w=w':=by
 have s1:=vY (P:=prog) (src:=53) (e:=5) (dst:=9) underlying53 underlying5 underlying9 hv;have s2:=vY (P:=prog) (src:=53) (e:=5) (dst:=9) underlying53 underlying5 underlying9 hu;clear hv hu;go_enter func50,ntmps50
 go_wp2_with fail
 go_ret
 exact⟨rfl,rfl⟩
theorem aaQ{w0 w:World}{b p cap:Nat}{a:Option Addr}{bad pk:Bool}{l:List UInt8}(hE:Ext w0 w)(hx:Bx w b #[.slice a l.length cap,.i p,.bool bad,.bool pk])(hb:w0.heap.size≤b)(h:jr w0 (.slice a l.length cap) l)(hp:p≤l.length) :
  Calls prog 77 #[.q b 0] w fun e w'=>e = .returned (.i (riV l p bad))∧Ext w0 w'∧Ch b w w'∧Bx w' b #[.slice a l.length cap,.i (riP l p bad:Nat),.bool (riB l p bad),.bool pk]:=by
 skip;refine Sx.Dc func77 ntmps77 hE hx hb fun ac S=>azc fun _ gW=>apB S 1 [] [(2,.i 0)] fun S=>aza<|gW _ _<|azX (fun _ Yh=>?_);obtain⟨xv,nx,er,hu⟩:∃xv nx er,En.vat l (p:Int)=(xv,nx,er):=⟨_,_,_,rfl⟩;have hwb:I64 xv:=by have:=@aed l p; rw[hu]at this; exact this
 refine Sx.draw S 15 [.mem 0 0,.mem 0 1] [(_,_,true,.tuple #[.i xv,.i nx,.i er])] [(3,.i xv),(4,.i nx),(18,.i er)] ⟨fun u hC g=>(by have hc:=Wv (.slice a l.length cap) l (p:Int) _ (eF (aI.below h (Ext.trans' S.E hC))); rw[hu]at hc; exact hc),trivial⟩ fun ac u E3 S=>apB S 1 [] [(5,.i er)] fun S=>aza<|Yh _ _<|azX fun _ κ4=>azc fun _ Bg=>apB S 8 [.mem 0 2] [(26,.bool (bad||(((er:Int)) != 0)))] fun S=>aza (Bg _ _ ?_);refine azC S (fun hc6=>?_) (fun hc6=>?_)
 ·refine azc fun _ Vo=>apB S 3 [] [(29,.q b 2)] fun S=>azO S 0 (off:=2) (v := .bool true) rfl (fun u C8 S=>?_);have Fs9:=(aH ((Ch.trans (Ch.refl b w) (Ch.aZ E3))) C8 (by first | exact .inl rfl | exact .inr (by omega)));refine aza<|Vo _ _<|azc fun _ zD=>apB S 1 [] [(2,.i 0)] fun S=>aza<|zD _ _<|Vp.rt ?_;have hq:(bad || !decide ((er:Int)=0))=true:=by cases bad<;>simp at hc6 ⊢ <;> omega
  obtain⟨q1,q2,q3⟩:=akv hu hq;refine Sx.OG S results77 ?_;exact⟨by rw[q3],S.E,Fs9,by rw[q1,q2]; have:=S.bx 0; exact this⟩
 refine aAi<|κ4 _ _<|azc fun _ OD=>apB S 4 [] [(31,.i nx),(33,.q b 1)] fun S=>azO S 0 (off:=1) (v := .i nx) rfl (fun u C12 S=>?_);have adz:=(aH ((Ch.trans (Ch.refl b w) (Ch.aZ E3))) C12 (by first | exact .inl rfl | exact .inr (by omega)));refine aza<|OD _ _<|azc fun _ vN=>apB S 2 [] [(2,.i xv)] fun S=>aza<|vN _ _<|Vp.rt ?_;have hq:(bad || !decide ((er:Int)=0))=false:=by cases bad<;>simp at hc6 ⊢ <;> omega
 obtain⟨q0,q1,q2,q3⟩:=aiz hu hq;refine Sx.OG S results77 ?_;exact⟨by rw[q3],S.E,adz,by rw[q1,q2]; have:=S.bx 0; rw[q0]at this; exact this⟩
theorem Sz{w0 w:World}{b p cap:Nat}{a:Option Addr}{bad pk:Bool}{l:List UInt8}(hE:Ext w0 w)(hx:Bx w b #[.slice a l.length cap,.i p,.bool bad,.bool pk])(hb:w0.heap.size≤b)(h:jr w0 (.slice a l.length cap) l)(hp:p≤l.length) :
  Calls prog 80 #[.q b 0] w fun e w'=>e = .returned (.i (rcV l p bad:Nat))∧Ext w0 w'∧Ch b w w'∧Bx w' b #[.slice a l.length cap,.i (rcP l p bad:Nat),.bool (rcB l p bad),.bool pk]:=by
 have hml:l.length≤9223372036854775807:=h.len;refine Sx.Dc func80 ntmps80 hE hx hb fun ac S=>azc fun _ gW=>apB S 1 [] [(2,.i 0)] fun S=>aza<|gW _ _<|azX (fun _ Yh=>?_);obtain⟨kk,nx,er,hu⟩:∃kk nx er,En.xO l (p:Int)=(kk,nx,er):=⟨_,_,_,rfl⟩;have hnx:nx≤l.length:=by have:=@WI l p hp; rw[hu]at this; exact this
 have hkb:kk<18446744073709551616:=by have:=Ws l (p:Int); rw[hu]at this; exact this
 refine Sx.draw S 15 [.mem 0 0,.mem 0 1] [(_,_,true,.tuple #[.int .u64 (kk:Int),.i nx,.i er])] [(3,.int .u64 (kk:Int)),(4,.i nx),(18,.i er)] ⟨fun u hC g=>(by have hc:=wS (.slice a l.length cap) l (p:Int) _ (eF (aI.below h (Ext.trans' S.E hC))); rw[hu]at hc; exact hc),trivial⟩ fun ac u E3 S=>apB S 1 [] [(5,.i er)] fun S=>aza<|Yh _ _<|azX fun _ κ4=>azc fun _ Bg=>apB S 20 [.mem 0 2,.mem 0 0,.re 35 (.i (IntKind.i64.wrap ((l.length:Int)-(nx:Int)))) (.i (l.length-nx:Nat)),.re 36 (.int .u64 (IntKind.u64.wrap ((l.length-nx:Nat):Int))) (.int .u64 ((l.length-nx:Nat):Int))] [(38,.bool ((bad||(((er:Int)) != 0))||(decide (((l.length-nx:Nat):Int)<(kk:Int)))))] (hk:=⟨(Sx.oZ (by omega) (by omega)),(wrap_u64 (by omega)),trivial⟩) fun S=>aza (Bg _ _ ?_);refine azC S (fun hc6=>?_) (fun hc6=>?_)
 ·refine azc fun _ Vo=>apB S 3 [] [(41,.q b 2)] fun S=>azO S 0 (off:=2) (v := .bool true) rfl (fun u C8 S=>?_);have Fs9:=(aH ((Ch.trans (Ch.refl b w) (Ch.aZ E3))) C8 (by first | exact .inl rfl | exact .inr (by omega)));refine aza<|Vo _ _<|azc fun _ zD=>apB S 1 [] [(2,.i 0)] fun S=>aza<|zD _ _<|Vp.rt ?_;have hq:¬(bad=false∧er=0∧kk≤l.length-nx):=by rintro⟨h1,h2,h3⟩; rw[h1]at hc6; simp at hc6<;>omega
  obtain⟨q1,q2,q3⟩:=aky hu hq;refine Sx.OG S results80 ?_;exact⟨by rw[q3]<;>rfl,S.E,Fs9,by rw[q1,q2]; have:=S.bx 0; exact this⟩
 refine aAi<|κ4 _ _<|azc (fun _ OD=>?_);have hq:bad=false∧er=0∧kk≤l.length-nx:=by cases bad<;>simp at hc6 ⊢ <;> omega
 refine apB S 4 [] [(43,.i nx),(45,.q b 1)] fun S=>azO S 0 (off:=1) (v := .i nx) rfl (fun u C12 S=>?_);have adz:=(aH ((Ch.trans (Ch.refl b w) (Ch.aZ E3))) C12 (by first | exact .inl rfl | exact .inr (by omega)));refine aza<|OD _ _<|azc fun _ vN=>apB S 3 [.re 47 (.i (IntKind.i64.wrap (kk:Int))) (.i kk)] [(2,.i kk)] (hk:=⟨(Sx.oZ rfl (by omega)),trivial⟩) fun S=>aza<|vN _ _<|Vp.rt ?_;obtain⟨q1,q2,q3⟩:=aiA hu hq;refine Sx.OG S results80 ?_;exact⟨by rw[q3]<;>rfl,S.E,adz,by rw[q1,q2]; have:=S.bx 0; rw[hq.1]at this; exact this⟩
theorem Ko{w:World}{v v':Value}{l m:List UInt8}(h:jr w v l)(h':jr w v' m) :
  Calls prog 114 #[v,v'] w fun e w'=>e = .returned (.bool (decide (m.length≤l.length)&&(l.take m.length==m)))∧Ext w w':=by
 obtain⟨a,cap,rfl⟩:=h.shape;obtain⟨d,cap',rfl⟩:=h'.shape;refine azN func114 ntmps114 fun ac S=>azc fun _ gW=>apB S 1 [] [(4,.z)] fun S=>aza<|gW _ _<|azc (fun _ Yh=>?_);by_cases hq:m.length≤l.length
 ·have hcap:=Sx.kN h;refine apB S 11 [.re 9 (.bool ((m.length:Int)≤(l.length:Int))) (.bool true),.slc 0 m.length cap cap] [(10,.bool true),(14,.slice (Sx.uo a 0 cap 1) m.length cap),(15,.slice d m.length cap')] (hk:=⟨(azT Value.bool (aAW (by omega))),(by omega),trivial⟩) fun S=>Sx.zZ S (some 16) (azB (kR _ _ (l.take m.length) m _ (eF (aI.below (Sx.qB h (l:=0) (h':=m.length) (m:=cap) (by omega) hq (by omega) (by omega)) S.E)) (eF (aI.below h' S.E)))) ?_;rintro e u ⟨rfl,E3⟩;refine⟨_,rfl,E3,fun ac S=>?_⟩;refine apB S 2 [] [(4,.bool (l.take m.length==m))] fun S=>aza<|Yh _ _<|Sx.UD S results114 ?_;exact⟨azT (fun b=>Ending.returned (Value.bool b)) (by rw[aAW hq,aAP]),S.E⟩
 refine apB S 14 [.re 9 (.bool ((m.length:Int)≤(l.length:Int))) (.z),.dead 11 (.z),.dead 12 (.z),.dead 13 (.z),.dead 14 (.z),.dead 15 (.z),.dead 16 (.z)] [(4,.z)] (hk:=⟨(azT Value.bool (aBj (by omega))),trivial⟩) fun S=>aza<|Yh _ _<|Sx.UD S results114 ?_;exact⟨azT (fun b=>Ending.returned (Value.bool b)) (by rw[aBj hq,aA5]),S.E⟩
end
end Go.Proofs.YtodpgjjgaddkeaaGreatDoor
