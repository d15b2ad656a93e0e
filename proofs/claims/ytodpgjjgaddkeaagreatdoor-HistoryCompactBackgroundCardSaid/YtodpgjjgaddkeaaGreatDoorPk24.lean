/- Chapter 7's walks for seats that hold more: the -/
import Derived.Test.YtodpgjjgaddkeaaGreatDoorPk23
set_option maxHeartbeats 1600000
set_option maxRecDepth 100000
set_option linter.unusedVariables false
set_option linter.unusedSimpArgs false
namespace Go.Proofs.YtodpgjjgaddkeaaGreatDoor
open _root_.Go.Proofs.Tryz
section
open Go.RowKit En Go.Sx
variable{α:Type}
theorem WY(v:Value)(l:List UInt8)(w:World)(hv:bK w v l)(hlen:l.length<=140737488355328) :
  Calls prog 61 #[v] w λe w'=>∃v',e = .returned v'∧w'.ownsRow w.heap.size 5 1 v' l.length (l.map fZ)∧Below w.heap.size w w':=by
 have hr:=hv.raw (λ_=>I);obtain⟨a,cap,rfl,hm,ha⟩:=hv;rcases a with _ | ad
 .have hz:l=[]∧cap=0:=by
   rcases ha with ⟨h,h0⟩ | ⟨b,o,h,_⟩
   .exact⟨h,h0 I⟩
   cases h
  obtain⟨rfl,rfl⟩:=hz;have hnil:=Lib.run_eql_slice_nil (P:=prog) w 53 5 none 0 0 0 0 underlying53;clear ha hr;go_enter func61,ntmps61
  go_wp2
  go_ret
  exact⟨_,I,aCi _ _ _ _,aAe _ _⟩
 have hnil:=Lib.run_eql_slice_nil (P:=prog) w 53 5 (some ad) l.length cap 0 0 underlying53;have hown:=aB1 (base:=w.heap.size) (e:=5) (size:=1) w #[] 0 (azS _) (azZ _) I;have hr:=Dk hr (.cells #[] 5);have h63:0+l.length<=maxLen:=by
  rcases ha with ⟨rfl,_⟩ | ⟨b,o,_,_,h,_⟩
  .simp
  omega
 have hby:(0+l.length)*1<=140737488355328:=Z
 clear ha;go_enter func61,ntmps61
 go_wp2_with (at_builtin; refine bP I _ _ _ I zQ w.heap.size hown I hr I h63 hby Y ?_; intro v' w' hown' hg)
 go_ret
 simp only[aAK,aAR]at hown';exact⟨_,I,by simpa using hown',((aAe _ _).alloc (azS _) _).grown hg Y (by simp[Value.ownBlock])⟩
theorem YM(l:List UInt8):fP.crc [l]=fP.update 0 l:=rfl
theorem YN(x:UInt32):(x.toNat:Int)/(65536:Int)=((x>>>16).toNat:Int):=by
 rw[aCw]; simp[Nat.shiftRight_eq_div_pow]
theorem YO(x:UInt32):(x.toNat:Int)/(16777216:Int)=((x>>>24).toNat:Int):=by
 rw[aCw]; simp[Nat.shiftRight_eq_div_pow]
theorem aaW(x:UInt32):(fP.le4 x).map fZ =
  [.u ((x.toNat:Int)%256),.u ((x.toNat:Int)/256%256),.u ((x.toNat:Int)/65536%256),.u ((x.toNat:Int)/16777216%256)]:=by
 simp only[fP.le4,aAE,aA2,fZ];rw[acD,YN,YO,wC,wC,wC,wC]
theorem agY(x:UInt32)(w:World)(e:TypeId):dQ (w.alloc (.cells #[.u ((x.toNat:Int)%256),.u ((x.toNat:Int)/256%256),.u ((x.toNat:Int)/65536%256),.u ((x.toNat:Int)/16777216%256)] e)) 1
  (.slice (some ⟨w.heap.size,0,none⟩) 4 4) 4 ((fP.le4 x).map fZ):=by
 rw[aaW];exact NQ w _ e 4 1 I (by unfold maxLen; omega) (by intro u hu; simp at hu; rcases hu with rfl | rfl | rfl | rfl<;>rfl)
theorem xq(v:Value)(l:List UInt8)(w:World)(hv:bK w v l)(hlen:l.length<=100000000000) :
  Calls prog 32 #[v] w λe w'=>∃v',e = .returned v' ∧
   w'.ownsRow w.heap.size 5 1 v' (l++fP.le4 (fP.update 0 l)).length ((l++fP.le4 (fP.update 0 l)).map fZ)∧Below w.heap.size w w':=by
 obtain⟨a,cap,rfl⟩:∃a cap,v = .slice a l.length cap:=by obtain⟨a,cap,h,_⟩:=hv; exact⟨a,cap,h⟩
 have hp:=Yg (R:=bK) w (.slice a l.length cap) l 53 (hv.below (aF _ _));have hv1:=hv.below (aF w (.cells #[.slice a l.length cap] 53));have h63:l.length+4<=maxLen:=by unfold maxLen; omega
 have hby:(l.length+4)*1<=140737488355328:=Z
 go_enter func32,ntmps32
 go_wp2_with fail
 refine(crc32 _ _ _ hp).mono ?_;rintro e w' ⟨rfl,rfl⟩;rw[YM];go_wp2_with fail
 refine(WY _ _ _ hv1 Z).mono ?_;rintro e w2 ⟨v2,rfl,hown,hb2⟩;have hb2':Below w.heap.size w w2:=(aF _ _).trans (hb2.mono Y);generalize hx:fP.update 0 l=x;have HX:=azO hx;clear hx;have hr:=agY x w2 5;have hown':=(bC hown (show w.heap.size<=_ by simp)).alloc (.cells #[.u ((x.toNat:Int)%256),.u ((x.toNat:Int)/256%256),.u ((x.toNat:Int)/65536%256),.u ((x.toNat:Int)/16777216%256)] 5);have hsz:w.heap.size<=w2.heap.size:=by have:=hb2.size; simp at this; omega
 have hsz':w.heap.size<=(w2.alloc (.cells #[.u ((x.toNat:Int)%256),.u ((x.toNat:Int)/256%256),.u ((x.toNat:Int)/65536%256),.u ((x.toNat:Int)/16777216%256)] 5)).heap.size:=by simp; omega
 clear hown;go_wp2_with (at_builtin; refine bP I _ _ _ I zQ w.heap.size hown' I hr I h63 hby hsz' ?_; intro v' w' hown' hg)
 go_ret
 refine⟨_,I,by rw[HX.out]; simpa[fP.le4]using hown',(hb2'.alloc hsz _).grown hg hsz' ?_⟩;exact λk hk=>(World.ownsRow.lt ‹_› k hk).1
theorem Td{c y:UInt8}{z:Int}(hz:z=(y.toNat:Int)):((c.toNat:Int) != z)=(c != y):=by
 subst hz;rw[aA9,bne_iff_ne,bne_iff_ne];constructor
 .intro h e; exact h (by rw[e])
 intro h e; exact h (aB0.1 Z)
theorem aiA(x:UInt32):(x.toNat:Int)%(256:Int)=(x.toUInt8.toNat:Int):=wC x
theorem aiB(x:UInt32):(x.toNat:Int)/(256:Int)%(256:Int)=((x>>>8).toUInt8.toNat:Int):=by rw[acD,wC]
theorem aiC(x:UInt32):(x.toNat:Int)/(65536:Int)%(256:Int)=((x>>>16).toUInt8.toNat:Int):=by rw[YN,wC]
theorem aiD(x:UInt32):(x.toNat:Int)/(16777216:Int)%(256:Int)=((x>>>24).toUInt8.toNat:Int):=by rw[YO,wC]
theorem four(l:List UInt8)(m:Nat)(h:l.length=m+4):∃c0 c1 c2 c3,l.drop m=[c0,c1,c2,c3]:=by
 have e:(l.drop m).length=4:=by simp; omega
 match l.drop m,e with
 | [c0,c1,c2,c3],_=>exact⟨c0,c1,c2,c3,I⟩
def aaX(c0 c1 c2 c3:UInt8)(x:UInt32)(k:Nat):Prop:=[c0,c1,c2,c3].take k=(fP.le4 x).take k
theorem OU(v:Value)(l:List UInt8)(w:World)(hv:bK w v l)(h:l.length<4) :
  Calls prog 43 #[v] w λe w'=>e = .returned (.tuple #[.sn,.i 4])∧w=w':=by
 obtain⟨a,cap,rfl⟩:∃a cap,v = .slice a l.length cap:=by obtain⟨a,cap,h,_⟩:=hv; exact⟨a,cap,h⟩
 clear hv;go_enter func43,ntmps43
 go_wp2
 go_ret2
 exact⟨I,I⟩
theorem Tf(v:Value)(l:List UInt8)(m:Nat)(w:World)(hv:bK w v l)(hlen:l.length=m+4)(hm:m<=100000000000) :
  Calls prog 43 #[v] w λe w'=>∃v' k,e = .returned (.tuple #[v',.i k])∧Below w.heap.size w w' ∧
   (l.drop m=fP.le4 (fP.update 0 (l.take m))->k=0∧bK w' v' (l.take m))∧(l.drop m≠fP.le4 (fP.update 0 (l.take m))->k=19∧v' = .sn):=by
 obtain⟨a,cap,rfl,hcap,ha⟩:=hv;rcases ha with ⟨rfl,_⟩ | ⟨b,o,rfl,hb,hlc,hc⟩
 .simp at hlen
 have hr:=acB (n:=m) hb hlc hcap Z hc;have hp:=Yg (R:=bK) w (.slice (some ⟨b,o,none⟩) m cap) (l.take m) 53 (hr.below (aF _ _));have hr1:=hr.below (aF w (.cells #[.slice (some ⟨b,o,none⟩) m cap] 53));have hlt:m<=cap:=Z
 have hne:¬m=cap:=Z
 have hmc:m<cap:=Z
 go_enter func43,ntmps43
 go_wp2_with fail
 refine(crc32 _ _ _ hp).mono ?_;rintro e w' ⟨rfl,rfl⟩;rw[YM];go_wp2_with fail
 generalize hx:fP.update 0 (l.take m)=x;have HX:=azO hx;clear hx hr;obtain⟨c0,c1,c2,c3,hd⟩:=four l m hlen;have hcd:∀k (h:k<4),(w.alloc (.cells #[.slice (some ⟨b,o,none⟩) m cap] 53)).cell? ⟨b,o+m+k,none⟩=some (fZ ([c0,c1,c2,c3][k])):=by
  intro k hk;rw[World.cell?_alloc_past _ _ _ hb,aBR,hc (m+k) Z];simp only[<-hd];rw[List.getElem_drop]
 have HC:=azO hcd;have HD:=azO hd;clear hcd hc hd;go_loop [22] (λi=>∃k:Nat,k<=4∧i = .i k∧aaX c0 c1 c2 c3 x k) (λi=>4-(intOf i).toNat)
 case atStart=>exact⟨0,Z,I,I⟩
 case round =>
  obtain⟨k,hk,rfl,heq⟩:=hrel;have HE:=azO heq;clear heq;have hk':k=0∨k=1∨k=2∨k=3∨k=4:=Z
  rcases hk' with rfl | rfl | rfl | rfl | rfl
  .have hck:=HC.out 0 Z;simp only[aBN,aCv]at hck;go_wp2
   .have h := ‹((c0.toNat:Int) != _)=true›;rw[Td (aiA x)]at h;go_ret2
    exact⟨_,_,I,aF _ _,λe=>by rw[HD.out,HX.out]at e; simp[fP.le4]at e; simp[e]at h,λ_=>⟨I,I⟩⟩
   have h := ‹((c0.toNat:Int) != _)=false›;rw[Td (aiA x)]at h;go_round
   case rel=>exact⟨1,Z,I,by simp[aaX,fP.le4]at h |-; exact h⟩
   case measure=>simp[intOf]
  .have hck:=HC.out 1 Z;simp only[aCv,List.getElem_cons_succ]at hck;go_wp2
   .have h := ‹((c1.toNat:Int) != _)=true›;rw[Td (aiB x)]at h;go_ret2
    exact⟨_,_,I,aF _ _,λe=>by rw[HD.out,HX.out]at e; simp[fP.le4]at e; simp[e]at h,λ_=>⟨I,I⟩⟩
   have h := ‹((c1.toNat:Int) != _)=false›;rw[Td (aiB x)]at h;go_round
   case rel=>exact⟨2,Z,I,by have:=HE.out; simp[aaX,fP.le4]at h this |-; exact⟨this,h⟩⟩
   case measure=>simp[intOf]
  .have hck:=HC.out 2 Z;simp only[aCv,List.getElem_cons_succ]at hck;go_wp2
   .have h := ‹((c2.toNat:Int) != _)=true›;rw[Td (aiC x)]at h;go_ret2
    exact⟨_,_,I,aF _ _,λe=>by rw[HD.out,HX.out]at e; simp[fP.le4]at e; simp[e]at h,λ_=>⟨I,I⟩⟩
   have h := ‹((c2.toNat:Int) != _)=false›;rw[Td (aiC x)]at h;go_round
   case rel=>exact⟨3,Z,I,by have:=HE.out; simp[aaX,fP.le4]at h this |-; exact⟨this.1,this.2,h⟩⟩
   case measure=>simp[intOf]
  .have hck:=HC.out 3 Z;simp only[aCv,List.getElem_cons_succ]at hck;go_wp2
   .have h := ‹((c3.toNat:Int) != _)=true›;rw[Td (aiD x)]at h;go_ret2
    exact⟨_,_,I,aF _ _,λe=>by rw[HD.out,HX.out]at e; simp[fP.le4]at e; simp[e]at h,λ_=>⟨I,I⟩⟩
   have h := ‹((c3.toNat:Int) != _)=false›;rw[Td (aiD x)]at h;go_round
   case rel=>exact⟨4,Z,I,by have:=HE.out; simp[aaX,fP.le4]at h this |-; exact⟨this.1,this.2.1,this.2.2,h⟩⟩
   case measure=>simp[intOf]
  have e:l.drop m=fP.le4 (fP.update 0 (l.take m)):=by
   rw[HD.out,HX.out]; have:=HE.out; simpa[aaX,fP.le4]using this
  have HF:=azO e;clear e;go_wp2_with fail
  refine(WY _ _ _ hr1 (by simp; omega)).mono ?_;rintro e w2 ⟨v2,rfl,hown,hb2⟩;have hrow:=aZ hown;clear hown;go_wp2_with fail
  go_ret2
  exact⟨_,_,I,(aF _ _).trans (hb2.mono Y),λ_=>⟨I,hrow⟩,λh=>(h HF.out).elim⟩
end
section
open Go.RowKit En Go.Sx
variable{α:Type}{K:Nat}
def dX(L:List Int):List UInt8:=L.flatMap λx=>dW 10 (En.zig x)
variable{l:List UInt8}{p er k b cap:Nat}{bad:Bool}{w w0:World}{x:Int}{v:Value}{a:Option Addr}
theorem aaY{L:List Int}(hk:k<L.length)(hx:L[k]=x):dX (L.take (k+1))=dX (L.take k)++dW 10 (En.zig x):=by
 unfold dX;rw[aAU hk,hx,aBx]; simp
theorem iJ(L:List Int):(dX L).length<=10*L.length:=by
 induction L with
 | nil=>simp[dX]
 | cons x L ih=>unfold dX at *; rw[aA0,azU,aAx]; have:=iG 10 (En.zig x); omega
abbrev aek (w:World)(v:Value)(L:List Int):Prop:=aJ 1 (λx:Int=>[.i x]) w v L
theorem iR{L:List Int}(h:aek w v L)(hb:∀x∈L,I64 x)(hn:L.length<=1000000) :
  Calls prog 53 #[v] w λe w'=>∃v',e = .returned v'∧OwnB w.heap.size w' v' (dX L)∧Ext w w':=by
 obtain⟨a,cap,rfl⟩:=h.shape;have hmax:L.length<=9223372036854775807:=h.len;refine azp func53 ntmps53 (λS=>?_);have R:=aAy S;have R:=SS R;refine azI S (ι:=Nat×Value) (λp a' w'=>p.1<=L.length∧(True)∧Rw w w' [] [⟨5,1,p.2,(dX (L.take p.1)).length,(dX (L.take p.1)).map fZ⟩]∧Sx.St w a' w' 18 [(0,.slice a L.length cap),(2,.sn),(3,p.2),(6,.slice a L.length cap),(7,.i L.length),(8,.i p.1)] [] []) (λp=>L.length-p.1) (0,(.sn)) (λS=>⟨azZ _,G,R,S.sn⟩) ?_;rintro⟨k,v⟩ ac u gQ eu hI;try dsimp only at hI
 obtain⟨hk,hR,R,S⟩:=hI;refine azJ S λS=>azm S (decide ((k:Int)<(L.length:Int))) (λnJ S=>?_) (λnJ S=>?_)
 .have sN:k<L.length:=by have:=az9 nJ; omega
  obtain⟨b10,o11,rfl,x16,zO,vN,NJ⟩:=aAo h (λ_=>I) (k) sN;have S:=S.view0 vN NJ;refine adr S 5 [] [.idx k L.length,.mem 0 0] (hk:=⟨sN,G⟩) λS=>azH S (zD x16 _ (hb x16 (by rw[<-zO]; exact aAl _)).1 (hb x16 (by rw[<-zO]; exact aAl _)).2) (λv14 u arP zL S=>?_);have hvl:=iJ (L.take k);rw[aAN]at hvl;have hu9:(dW 10 (En.zig x16)).length<=10:=iG 10 _;obtain⟨R,Y19⟩:=R.bQ S (aAg zL);refine azw S λS=>Sx.app S R 0 15 I zQ (jH (arP)) (by show(dX (L.take k)).length+(dW 10 (En.zig x16)).length<=9223372036854775807; omega) (by show((dX (L.take k)).length+(dW 10 (En.zig x16)).length)*1<=140737488355328; omega) λac u v20 X21 R S=>azF S λS=>adr S 3 [] [.re 16 (.i (IntKind.i64.wrap ((k:Int)+1))) (.i (k+1:Nat))] (hk:=⟨azA Z,G⟩) λS=>azG S gQ (λS=>?_);exact eu _ _ ((k+1),v20) ⟨Z,G,R.as (show [(⟨5,1,v20,((dX (L.take k)).length+(dW 10 (En.zig x16)).length),((dX (L.take k)).map fZ++(dW 10 (En.zig x16)).map fZ)⟩:Sx.Row)]=[⟨5,1,v20,(dX (L.take (k+1))).length,(dX (L.take (k+1))).map fZ⟩] by rw[aaY sN zO]; simp),S.sn⟩ (by show _-_<_-_; omega)
 refine apB S v (λS=>?_);exact⟨_,I,by have:=R.own _ az5; rw[aAv (by have:=aAd nJ; omega)]at this; exact this,S.E⟩
theorem uV{p:bD} :
  Calls prog 54 #[.agg p.cells.toArray] w λe w'=>∃v,e = .returned v∧OwnB w.heap.size w' v (Px.pb p)∧Ext w w':=by
 skip;refine azp func54 ntmps54 λS=>azs S p.cells (λu b2 E3 hb4 S=>?_);have R:=aAy S;refine adr S 9 [] [.mem 0 0,.mem 0 1,.mem 0 2,.mem 0 3] λS=>azw S λS=>Sx.newRow S R 11 4 5 1 p.cells λac u v6 E7 X8 R S=>azF S λS=>apB S v6 (λS=>?_);exact⟨_,I,R.own _ az5,S.E⟩
theorem WZ{l:List UInt8}{p:Nat}(hp:p<=l.length):(yg l (p:Int)).2.1<=l.length:=by
 cases h:yg l (p:Int)with
 | mk k r =>
  obtain⟨x,er⟩:=r;by_cases he:er=0
  .subst he; obtain⟨c,-,-,h2,-⟩:=Px.ok1 hp h; exact h2
  rw[Px.WW hp]at h;split at h
  .simp only[azW]at h; omega
  simp only[azW]at h; show x<=_; omega
def riB(l:List UInt8)(p:Nat)(bad:Bool):Bool:=bad||(vat l (p:Int)).2.2 != 0
def riP(l:List UInt8)(p:Nat)(bad:Bool):Nat:=if riB l p bad=true then p else (vat l (p:Int)).2.1
def riV(l:List UInt8)(p:Nat)(bad:Bool):Int:=if riB l p bad=true then 0 else (vat l (p:Int)).1
theorem akC(hp:p<=l.length):riP l p bad<=l.length:=by
 unfold riP; split
 .exact hp
 exact WZ hp
theorem ael{l:List UInt8}{p:Nat}:I64 (vat l (p:Int)).1:=by
 have:=adD (n:=(yg l (p:Int)).1) (WQ l p);exact this
theorem akD{nx:Nat}(hu:vat l (p:Int)=(x,nx,er))(h:(bad || !decide ((er:Int)=0))=true):riB l p bad=true∧riP l p bad=p∧riV l p bad=0:=by
 have:riB l p bad=true:=by
  unfold riB; rw[hu];cases bad
  .simp at h |-; omega
  rfl
 unfold riP riV; rw[azQ this,azQ this]; exact⟨this,I,I⟩
theorem aiE{nx:Nat}(hu:vat l (p:Int)=(x,nx,er))(h:(bad || !decide ((er:Int)=0))=false):bad=false∧riB l p bad=false∧riP l p bad=nx∧riV l p bad=x:=by
 have:bad=false∧riB l p bad=false:=by
  unfold riB; rw[hu];cases bad
  .simp at h |-; omega
  simp at h
 unfold riP riV; rw[this.2,hu]; exact⟨this.1,I,by simp,by simp⟩
def rcB(l:List UInt8)(p:Nat)(bad:Bool):Bool:=bad||((yg l (p:Int)).2.2 != 0||decide (l.length-(yg l (p:Int)).2.1<(yg l (p:Int)).1))
def rcP(l:List UInt8)(p:Nat)(bad:Bool):Nat:=if rcB l p bad=true then p else (yg l (p:Int)).2.1
def rcV(l:List UInt8)(p:Nat)(bad:Bool):Nat:=if rcB l p bad=true then 0 else (yg l (p:Int)).1
theorem akE(hp:p<=l.length):rcP l p bad<=l.length:=by
 unfold rcP; split
 .exact hp
 exact WZ hp
theorem akF:rcV l p bad<=l.length:=by
 unfold rcV; split
 .omega
 rename_i h; unfold rcB at h; simp at h; omega
theorem akG{nx:Nat}(hu:yg l (p:Int)=(k,nx,er))(h:¬(bad=false∧er=0∧k<=l.length-nx)):rcB l p bad=true∧rcP l p bad=p∧rcV l p bad=0:=by
 have:rcB l p bad=true:=by
  unfold rcB; rw[hu];cases bad
  .simp at h |-; omega
  rfl
 unfold rcP rcV; rw[azQ this,azQ this]; exact⟨this,I,I⟩
theorem aiF{nx:Nat}(hu:yg l (p:Int)=(k,nx,er))(h:bad=false∧er=0∧k<=l.length-nx):rcB l p bad=false∧rcP l p bad=nx∧rcV l p bad=k:=by
 have:rcB l p bad=false:=by
  unfold rcB; rw[hu];obtain⟨rfl,rfl,h⟩:=h;simp; omega
 unfold rcP rcV; rw[this,hu]; exact⟨I,by simp,by simp⟩
theorem kY(v u:Value)(l m:List UInt8)(w:World)(hv:bK w v l)(hu:bK w u m) :
  Calls prog 50 #[v,u] w λe w'=>e = .returned (.bool (l==m))∧w=w':=by
 have s1:=wB (P:=prog) (src:=53) (e:=5) (dst:=9) underlying53 underlying5 underlying9 hv;have s2:=wB (P:=prog) (src:=53) (e:=5) (dst:=9) underlying53 underlying5 underlying9 hu;clear hv hu;go_enter func50,ntmps50
 go_wp2_with fail
 go_ret
 exact⟨I,I⟩
theorem aaZ{pk:Bool}(hE:Ext w0 w)(hx:Bx w b #[.slice a l.length cap,.i p,.bool bad,.bool pk])(hb:w0.heap.size<=b)(h:jv w0 (.slice a l.length cap) l)(hp:p<=l.length) :
  Calls prog 77 #[.q b 0] w λe w'=>e = .returned (.i (riV l p bad))∧Ext w0 w'∧Ch b w w'∧Bx w' b #[.slice a l.length cap,.i (riP l p bad:Nat),.bool (riB l p bad),.bool pk]:=by
 skip;refine Dv func77 ntmps77 hE hx hb λac S=>azn λ_ gQ=>azk S 1 [] [(2,.i 0)] λS=>azl<|gQ _ _<|az8 (λ_ U1=>?_);obtain⟨xv,nx,er,hu⟩:∃xv nx er,vat l (p:Int)=(xv,nx,er):=⟨_,_,_,I⟩;have hwb:I64 xv:=by have:=@ael l p; rw[hu]at this; exact this
 refine Sx.draw S 15 [.mem 0 0,.mem 0 1] [(_,_,true,.tuple #[.i xv,.i nx,.i er])] [(3,.i xv),(4,.i nx),(18,.i er)] ⟨λu hC g=>(by have hc:=WS (.slice a l.length cap) l (p:Int) _ (eH (aJ.below h (K00 S.E hC))); rw[hu]at hc; exact hc),G⟩ λac u E3 S=>azk S 1 [] [(5,.i er)] λS=>azl<|U1 _ _<|az8 λ_ κ4=>azn λ_ BN=>azk S 8 [.mem 0 2] [(26,.bool (bad||(((er:Int)) != 0)))] λS=>azl (BN _ _ ?_);refine azM S (λhc6=>?_) (λhc6=>?_)
 .refine azn λ_ VH=>azk S 3 [] [(29,.q b 2)] λS=>azY S 0 (off:=2) (v := .bool true) I (λu C8 S=>?_);have Fs9:=(aI ((Ch.trans (Ch.refl b w) (Ch.aT E3))) C8 (by first | exact .inl I | exact .inr Z));refine azl<|VH _ _<|azn λ_ Ah=>azk S 1 [] [(2,.i 0)] λS=>azl<|Ah _ _<|Vp.rt ?_;have hq:(bad || !decide ((er:Int)=0))=true:=by cases bad<;>simp at hc6 |- <;> omega
  obtain⟨q1,q2,q3⟩:=akD hu hq;refine OV S results77 ?_;exact⟨by rw[q3],S.E,Fs9,by rw[q1,q2]; have:=S.bx 0; exact this⟩
 refine aAs<|κ4 _ _<|azn λ_ OT=>azk S 4 [] [(31,.i nx),(33,.q b 1)] λS=>azY S 0 (off:=1) (v := .i nx) I (λu C12 S=>?_);have adO:=(aI ((Ch.trans (Ch.refl b w) (Ch.aT E3))) C12 (by first | exact .inl I | exact .inr Z));refine azl<|OT _ _<|azn λ_ vP=>azk S 2 [] [(2,.i xv)] λS=>azl<|vP _ _<|Vp.rt ?_;have hq:(bad || !decide ((er:Int)=0))=false:=by cases bad<;>simp at hc6 |- <;> omega
 obtain⟨q0,q1,q2,q3⟩:=aiE hu hq;refine OV S results77 ?_;exact⟨by rw[q3],S.E,adO,by rw[q1,q2]; have:=S.bx 0; rw[q0]at this; exact this⟩
theorem Ti{pk:Bool}(hE:Ext w0 w)(hx:Bx w b #[.slice a l.length cap,.i p,.bool bad,.bool pk])(hb:w0.heap.size<=b)(h:jv w0 (.slice a l.length cap) l)(hp:p<=l.length) :
  Calls prog 80 #[.q b 0] w λe w'=>e = .returned (.i (rcV l p bad:Nat))∧Ext w0 w'∧Ch b w w'∧Bx w' b #[.slice a l.length cap,.i (rcP l p bad:Nat),.bool (rcB l p bad),.bool pk]:=by
 have hml:l.length<=9223372036854775807:=h.len;refine Dv func80 ntmps80 hE hx hb λac S=>azn λ_ gQ=>azk S 1 [] [(2,.i 0)] λS=>azl<|gQ _ _<|az8 (λ_ U1=>?_);obtain⟨kk,nx,er,hu⟩:∃kk nx er,yg l (p:Int)=(kk,nx,er):=⟨_,_,_,I⟩;have hnx:nx<=l.length:=by have:=@WZ l p hp; rw[hu]at this; exact this
 have hkb:kk<18446744073709551616:=by have:=WQ l (p:Int); rw[hu]at this; exact this
 refine Sx.draw S 15 [.mem 0 0,.mem 0 1] [(_,_,true,.tuple #[.int .u64 (kk:Int),.i nx,.i er])] [(3,.int .u64 (kk:Int)),(4,.i nx),(18,.i er)] ⟨λu hC g=>(by have hc:=xk (.slice a l.length cap) l (p:Int) _ (eH (aJ.below h (K00 S.E hC))); rw[hu]at hc; exact hc),G⟩ λac u E3 S=>azk S 1 [] [(5,.i er)] λS=>azl<|U1 _ _<|az8 λ_ κ4=>azn λ_ BN=>azk S 20 [.mem 0 2,.mem 0 0,.re 35 (.i (IntKind.i64.wrap ((l.length:Int)-(nx:Int)))) (.i (l.length-nx:Nat)),.re 36 (.int .u64 (IntKind.u64.wrap ((l.length-nx:Nat):Int))) (.int .u64 ((l.length-nx:Nat):Int))] [(38,.bool ((bad||(((er:Int)) != 0))||(decide (((l.length-nx:Nat):Int)<(kk:Int)))))] (hk:=⟨(oZ Z Z),(wrap_u64 Z),G⟩) λS=>azl (BN _ _ ?_);refine azM S (λhc6=>?_) (λhc6=>?_)
 .refine azn λ_ VH=>azk S 3 [] [(41,.q b 2)] λS=>azY S 0 (off:=2) (v := .bool true) I (λu C8 S=>?_);have Fs9:=(aI ((Ch.trans (Ch.refl b w) (Ch.aT E3))) C8 (by first | exact .inl I | exact .inr Z));refine azl<|VH _ _<|azn λ_ Ah=>azk S 1 [] [(2,.i 0)] λS=>azl<|Ah _ _<|Vp.rt ?_;have hq:¬(bad=false∧er=0∧kk<=l.length-nx):=by rintro⟨h1,h2,h3⟩; rw[h1]at hc6; simp at hc6<;>omega
  obtain⟨q1,q2,q3⟩:=akG hu hq;refine OV S results80 ?_;exact⟨by rw[q3]<;>rfl,S.E,Fs9,by rw[q1,q2]; have:=S.bx 0; exact this⟩
 refine aAs<|κ4 _ _<|azn (λ_ OT=>?_);have hq:bad=false∧er=0∧kk<=l.length-nx:=by cases bad<;>simp at hc6 |- <;> omega
 refine azk S 4 [] [(43,.i nx),(45,.q b 1)] λS=>azY S 0 (off:=1) (v := .i nx) I (λu C12 S=>?_);have adO:=(aI ((Ch.trans (Ch.refl b w) (Ch.aT E3))) C12 (by first | exact .inl I | exact .inr Z));refine azl<|OT _ _<|azn λ_ vP=>azk S 3 [.re 47 (.i (IntKind.i64.wrap (kk:Int))) (.i kk)] [(2,.i kk)] (hk:=⟨(oZ I Z),G⟩) λS=>azl<|vP _ _<|Vp.rt ?_;obtain⟨q1,q2,q3⟩:=aiF hu hq;refine OV S results80 ?_;exact⟨by rw[q3]<;>rfl,S.E,adO,by rw[q1,q2]; have:=S.bx 0; rw[hq.1]at this; exact this⟩
theorem KG{v':Value}{m:List UInt8}(h:jv w v l)(h':jv w v' m) :
  Calls prog 114 #[v,v'] w λe w'=>e = .returned (.bool (decide (m.length<=l.length)&&(l.take m.length==m)))∧Ext w w':=by
 obtain⟨a,cap,rfl⟩:=h.shape;obtain⟨d,cap',rfl⟩:=h'.shape;refine azX func114 ntmps114 λac S=>azn λ_ gQ=>azk S 1 [] [(4,.z)] λS=>azl<|gQ _ _<|azn (λ_ U1=>?_);by_cases hq:m.length<=l.length
 .have hcap:=iH h;refine azk S 11 [.re 9 (.bool ((m.length:Int)<=(l.length:Int))) (.bool true),.slc 0 m.length cap cap] [(10,.bool true),(14,.slice (pJ a 0 cap 1) m.length cap),(15,.slice d m.length cap')] (hk:=⟨(az0 Value.bool (aA6 Z)),Z,G⟩) λS=>OW S (some 16) (azL (kY _ _ (l.take m.length) m _ (eH (aJ.below (oC h (l:=0) (h':=m.length) (m:=cap) Z hq Z Z) S.E)) (eH (aJ.below h' S.E)))) ?_;rintro e u ⟨rfl,E3⟩;refine⟨_,I,E3,λac S=>?_⟩;refine azk S 2 [] [(4,.bool (l.take m.length==m))] λS=>azl<|U1 _ _<|U0 S results114 ?_;exact⟨az0 (λb=>Ending.returned (Value.bool b)) (by rw[aA6 hq,aA1]),S.E⟩
 refine azk S 14 [.re 9 (.bool ((m.length:Int)<=(l.length:Int))) (.z),.dead 11 (.z),.dead 12 (.z),.dead 13 (.z),.dead 14 (.z),.dead 15 (.z),.dead 16 (.z)] [(4,.z)] (hk:=⟨(az0 Value.bool (aBp Z)),G⟩) λS=>azl<|U1 _ _<|U0 S results114 ?_;exact⟨az0 (λb=>Ending.returned (Value.bool b)) (by rw[aBp hq,aBh]),S.E⟩
