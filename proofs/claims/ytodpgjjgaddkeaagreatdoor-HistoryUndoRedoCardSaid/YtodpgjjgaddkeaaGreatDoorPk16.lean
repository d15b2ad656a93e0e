/- Chapter 7's walks for seats -/
import Derived.Test.YtodpgjjgaddkeaaGreatDoorPk15
import Derived.Lib.AppendZeros
set_option maxHeartbeats 9999999
open Go renaming World->Á,Value->À,Calls->Ä,wpList->Ð
open Go.Proofs.Tryz
set_option maxRecDepth 100000
set_option linter.unusedVariables false
set_option linter.unusedSimpArgs false
namespace Go.Proofs.Pv
section
open Go.RowKit Na Nb Go.Sx
variable{α:Type}
abbrev WI(v:À)(l:List UInt8)(w:Á)(hv:bI w v l)(hlen:l.length<=140737488355328) :
  Ä prog 61 #[v] w λe w'=>∃v',e = .R v'∧w'.ownsRow w.heap.size 5 1 v' l.length (l.map iO)∧Below w.heap.size w w':=by
 have hr:=hv.raw (λ_=>I);obtain⟨a,cap,rfl,hm,ha⟩:=hv;rcases a with _ | ad
 .have hz:l=[]∧cap=0:=by
   rcases ha with ⟨h,h0⟩ | ⟨b,o,h,_⟩
   .exact⟨h,h0 I⟩
   cases h
  obtain⟨rfl,rfl⟩:=hz;have hnil:=Lib.run_eql_slice_nil (P:=prog) w 53 5 none 0 0 0 0 underlying53;clear ha hr;go_enter func61,ntmps61
  go_wp2
  go_ret
  exact⟨_,I,ayS _ _ _ _,ù _ _⟩
 have hnil:=Lib.run_eql_slice_nil (P:=prog) w 53 5 (some ad) l.length cap 0 0 underlying53;have hown:=ϒ (base:=w.heap.size) (e:=5) (size:=1) w #[] 0 (Ó _) (Õ _) I;have hr:=DL hr (.cells #[] 5);have h63:0+l.length<=maxLen:=by
  rcases ha with ⟨rfl,_⟩ | ⟨b,o,_,_,h,_⟩
  .simp
  omega
 have hby:(0+l.length)*1<=140737488355328:=Z
 clear ha;go_enter func61,ntmps61
 go_wp2_with (at_builtin; refine bD I _ _ _ I DU w.heap.size hown I hr I h63 hby Y ?_; intro v' w' hown' hg)
 go_ret
 simp only[Ĳ,ĵ]at hown';exact⟨_,I,by simpa using hown',((ù _ _).alloc (Ó _) _).grown hg Y (by simp[Value.ownBlock])⟩
abbrev YQ(l:List UInt8):gI.crc [l]=gI.update 0 l:=rfl
abbrev YR(x:UInt32):(x.toNat:Int)/(65536:Int)=((x>>>16).toNat:Int):=by
 rw[ay0]; simp[Nat.shiftRight_eq_div_pow]
abbrev YS(x:UInt32):(x.toNat:Int)/(16777216:Int)=((x>>>24).toNat:Int):=by
 rw[ay0]; simp[Nat.shiftRight_eq_div_pow]
abbrev aaB(x:UInt32):(gI.le4 x).map iO =
  [.u ((x.toNat:Int)%256),.u ((x.toNat:Int)/256%256),.u ((x.toNat:Int)/65536%256),.u ((x.toNat:Int)/16777216%256)]:=by
 simp only[gI.le4,Ē,ŀ,iO];rw[acp,YR,YS,wL,wL,wL,wL]
abbrev ahk(x:UInt32)(w:Á)(e:TypeId):dN (w.alloc (.cells #[.u ((x.toNat:Int)%256),.u ((x.toNat:Int)/256%256),.u ((x.toNat:Int)/65536%256),.u ((x.toNat:Int)/16777216%256)] e)) 1
  (.s (some ⟨w.heap.size,0,none⟩) 4 4) 4 ((gI.le4 x).map iO):=by
 rw[aaB];exact NH w _ e 4 1 I (by unfold maxLen; omega) (by intro u hu; simp at hu; rcases hu with rfl | rfl | rfl | rfl<;>rfl)
abbrev xM(v:À)(l:List UInt8)(w:Á)(hv:bI w v l)(hlen:l.length<=100000000000) :
  Ä prog 32 #[v] w λe w'=>∃v',e = .R v' ∧
   w'.ownsRow w.heap.size 5 1 v' (l++gI.le4 (gI.update 0 l)).length ((l++gI.le4 (gI.update 0 l)).map iO)∧Below w.heap.size w w':=by
 obtain⟨a,cap,rfl⟩:∃a cap,v = .s a l.length cap:=by obtain⟨a,cap,h,_⟩:=hv; exact⟨a,cap,h⟩
 have hp:=Yc (R:=bI) w (.s a l.length cap) l 53 (hv.below (aH _ _));have hv1:=hv.below (aH w (.cells #[.s a l.length cap] 53));have h63:l.length+4<=maxLen:=by unfold maxLen; omega
 have hby:(l.length+4)*1<=140737488355328:=Z
 go_enter func32,ntmps32
 go_wp2_with fail
 refine(crc32 _ _ _ hp).mono ?_;rintro e w' ⟨rfl,rfl⟩;rw[YQ];go_wp2_with fail
 refine(WI _ _ _ hv1 Z).mono ?_;rintro e w2 ⟨v2,rfl,hown,hb2⟩;have hb2':Below w.heap.size w w2:=(aH _ _).trans (hb2.mono Y);generalize hx:gI.update 0 l=x;have HX:=Â hx;clear hx;have hr:=ahk x w2 5;have hown':=(bK hown (show w.heap.size<=_ by simp)).alloc (.cells #[.u ((x.toNat:Int)%256),.u ((x.toNat:Int)/256%256),.u ((x.toNat:Int)/65536%256),.u ((x.toNat:Int)/16777216%256)] 5);have hsz:w.heap.size<=w2.heap.size:=by have:=hb2.size; simp at this; omega
 have hsz':w.heap.size<=(w2.alloc (.cells #[.u ((x.toNat:Int)%256),.u ((x.toNat:Int)/256%256),.u ((x.toNat:Int)/65536%256),.u ((x.toNat:Int)/16777216%256)] 5)).heap.size:=by simp; omega
 clear hown;go_wp2_with (at_builtin; refine bD I _ _ _ I DU w.heap.size hown' I hr I h63 hby hsz' ?_; intro v' w' hown' hg)
 go_ret
 refine⟨_,I,by rw[HX.out]; simpa[gI.le4]using hown',(hb2'.alloc hsz _).grown hg hsz' ?_⟩;exact λk hk=>(World.ownsRow.lt ‹_› k hk).1
abbrev SG{c y:UInt8}{z:Int}(hz:z=(y.toNat:Int)):((c.toNat:Int) != z)=(c != y):=by
 subst hz;rw[ĩ,bne_iff_ne,bne_iff_ne];constructor
 .intro h e; exact h (by rw[e])
 intro h e; exact h (Ϩ.1 Z)
abbrev ai4(x:UInt32):(x.toNat:Int)%(256:Int)=(x.toUInt8.toNat:Int):=wL x
abbrev ai5(x:UInt32):(x.toNat:Int)/(256:Int)%(256:Int)=((x>>>8).toUInt8.toNat:Int):=by rw[acp,wL]
abbrev ai6(x:UInt32):(x.toNat:Int)/(65536:Int)%(256:Int)=((x>>>16).toUInt8.toNat:Int):=by rw[YR,wL]
abbrev ai7(x:UInt32):(x.toNat:Int)/(16777216:Int)%(256:Int)=((x>>>24).toUInt8.toNat:Int):=by rw[YS,wL]
abbrev four(l:List UInt8)(m:Nat)(h:l.length=m+4):∃c0 c1 c2 c3,l.drop m=[c0,c1,c2,c3]:=by
 have e:(l.drop m).length=4:=by simp; omega
 match l.drop m,e with
 | [c0,c1,c2,c3],_=>exact⟨c0,c1,c2,c3,I⟩
def aaC(c0 c1 c2 c3:UInt8)(x:UInt32)(k:Nat):Prop:=[c0,c1,c2,c3].take k=(gI.le4 x).take k
abbrev OU(v:À)(l:List UInt8)(w:Á)(hv:bI w v l)(h:l.length<4) :
  Ä prog 43 #[v] w λe w'=>e = .R (.tuple #[.sn,.i 4])∧w=w':=by
 obtain⟨a,cap,rfl⟩:∃a cap,v = .s a l.length cap:=by obtain⟨a,cap,h,_⟩:=hv; exact⟨a,cap,h⟩
 clear hv;go_enter func43,ntmps43
 go_wp2
 go_ret2
 exact⟨I,I⟩
abbrev SH(v:À)(l:List UInt8)(m:Nat)(w:Á)(hv:bI w v l)(hlen:l.length=m+4)(hm:m<=100000000000) :
  Ä prog 43 #[v] w λe w'=>∃v' k,e = .R (.tuple #[v',.i k])∧Below w.heap.size w w' ∧
   (l.drop m=gI.le4 (gI.update 0 (l.take m))->k=0∧bI w' v' (l.take m))∧(l.drop m≠gI.le4 (gI.update 0 (l.take m))->k=19∧v' = .sn):=by
 obtain⟨a,cap,rfl,hcap,ha⟩:=hv;rcases ha with ⟨rfl,_⟩ | ⟨b,o,rfl,hb,hlc,hc⟩
 .simp at hlen
 have hr:=acn (n:=m) hb hlc hcap Z hc;have hp:=Yc (R:=bI) w (.s (some ⟨b,o,none⟩) m cap) (l.take m) 53 (hr.below (aH _ _));have hr1:=hr.below (aH w (.cells #[.s (some ⟨b,o,none⟩) m cap] 53));have hlt:m<=cap:=Z
 have hne:¬m=cap:=Z
 have hmc:m<cap:=Z
 go_enter func43,ntmps43
 go_wp2_with fail
 refine(crc32 _ _ _ hp).mono ?_;rintro e w' ⟨rfl,rfl⟩;rw[YQ];go_wp2_with fail
 generalize hx:gI.update 0 (l.take m)=x;have HX:=Â hx;clear hx hr;obtain⟨c0,c1,c2,c3,hd⟩:=four l m hlen;have hcd:∀k (h:k<4),(w.alloc (.cells #[.s (some ⟨b,o,none⟩) m cap] 53)).cell? ⟨b,o+m+k,none⟩=some (iO ([c0,c1,c2,c3][k])):=by
  intro k hk;rw[World.cell?_alloc_past _ _ _ hb,Ξ,hc (m+k) Z];simp only[<-hd];rw[List.getElem_drop]
 have HC:=Â hcd;have HD:=Â hd;clear hcd hc hd;go_loop [22] (λi=>∃k:Nat,k<=4∧i = .i k∧aaC c0 c1 c2 c3 x k) (λi=>4-(intOf i).toNat)
 case atStart=>exact⟨0,Z,I,I⟩
 case round =>
  obtain⟨k,hk,rfl,heq⟩:=hrel;have HE:=Â heq;clear heq;have hk':k=0∨k=1∨k=2∨k=3∨k=4:=Z
  rcases hk' with rfl | rfl | rfl | rfl | rfl
  .have hck:=HC.out 0 Z;simp only[Λ,azb]at hck;go_wp2
   .have h := ‹((c0.toNat:Int) != _)=true›;rw[SG (ai4 x)]at h;go_ret2
    exact⟨_,_,I,aH _ _,λe=>by rw[HD.out,HX.out]at e; simp[gI.le4]at e; simp[e]at h,λ_=>⟨I,I⟩⟩
   have h := ‹((c0.toNat:Int) != _)=false›;rw[SG (ai4 x)]at h;go_round
   case rel=>exact⟨1,Z,I,by simp[aaC,gI.le4]at h |-; exact h⟩
   case measure=>simp[intOf]
  .have hck:=HC.out 1 Z;simp only[azb,List.getElem_cons_succ]at hck;go_wp2
   .have h := ‹((c1.toNat:Int) != _)=true›;rw[SG (ai5 x)]at h;go_ret2
    exact⟨_,_,I,aH _ _,λe=>by rw[HD.out,HX.out]at e; simp[gI.le4]at e; simp[e]at h,λ_=>⟨I,I⟩⟩
   have h := ‹((c1.toNat:Int) != _)=false›;rw[SG (ai5 x)]at h;go_round
   case rel=>exact⟨2,Z,I,by have:=HE.out; simp[aaC,gI.le4]at h this |-; exact⟨this,h⟩⟩
   case measure=>simp[intOf]
  .have hck:=HC.out 2 Z;simp only[azb,List.getElem_cons_succ]at hck;go_wp2
   .have h := ‹((c2.toNat:Int) != _)=true›;rw[SG (ai6 x)]at h;go_ret2
    exact⟨_,_,I,aH _ _,λe=>by rw[HD.out,HX.out]at e; simp[gI.le4]at e; simp[e]at h,λ_=>⟨I,I⟩⟩
   have h := ‹((c2.toNat:Int) != _)=false›;rw[SG (ai6 x)]at h;go_round
   case rel=>exact⟨3,Z,I,by have:=HE.out; simp[aaC,gI.le4]at h this |-; exact⟨this.1,this.2,h⟩⟩
   case measure=>simp[intOf]
  .have hck:=HC.out 3 Z;simp only[azb,List.getElem_cons_succ]at hck;go_wp2
   .have h := ‹((c3.toNat:Int) != _)=true›;rw[SG (ai7 x)]at h;go_ret2
    exact⟨_,_,I,aH _ _,λe=>by rw[HD.out,HX.out]at e; simp[gI.le4]at e; simp[e]at h,λ_=>⟨I,I⟩⟩
   have h := ‹((c3.toNat:Int) != _)=false›;rw[SG (ai7 x)]at h;go_round
   case rel=>exact⟨4,Z,I,by have:=HE.out; simp[aaC,gI.le4]at h this |-; exact⟨this.1,this.2.1,this.2.2,h⟩⟩
   case measure=>simp[intOf]
  have e:l.drop m=gI.le4 (gI.update 0 (l.take m)):=by
   rw[HD.out,HX.out]; have:=HE.out; simpa[aaC,gI.le4]using this
  have HF:=Â e;clear e;go_wp2_with fail
  refine(WI _ _ _ hr1 (by simp; omega)).mono ?_;rintro e w2 ⟨v2,rfl,hown,hb2⟩;have hrow:=aS hown;clear hown;go_wp2_with fail
  go_ret2
  exact⟨_,_,I,(aH _ _).trans (hb2.mono Y),λ_=>⟨I,hrow⟩,λh=>(h HF.out).elim⟩
end
section
open Go.RowKit Na Nb Go.Sx
variable{α:Type}{K:Nat}
def iM(L:List Int):List UInt8:=L.flatMap λx=>En.fE 10 (En.zig x)
variable{p er k b cap:Nat}{bad:Bool}{x:Int}{v:À}
abbrev aaD{L:List Int}(hk:k<L.length)(hx:L[k]=x):iM (L.take (k+1))=iM (L.take k)++En.fE 10 (En.zig x):=by
 unfold iM;rw[ı hk,hx,ŉ]; simp
abbrev SI(L:List Int):(iM L).length<=10*L.length:=by
 induction L with
 | nil=>simp[iM]
 | cons x L ih=>unfold iM at *; rw[ł,ì,Ĺ]; have:=En.mF 10 (En.zig x); omega
abbrev ad7 (w:Á)(v:À)(L:List Int):Prop:=aI 1 (λx:Int=>[.i x]) w v L
abbrev xO{w:Á}{L:List Int}(h:ad7 w v L)(hb:∀x∈L,I64 x)(hn:L.length<=1000000) :
  Ä prog 53 #[v] w λe w'=>∃v',e = .R v'∧OwnB w.heap.size w' v' (iM L)∧Ext w w':=by
 obtain⟨a,cap,rfl⟩:=h.shape;have hmax:L.length<=9223372036854775807:=h.len;refine Ë func53 ntmps53 (λS=>?_);have R:=ĺ S;have R:=adZ R;refine ĕ S (ι:=Nat×À) (λp a' w'=>p.1<=L.length∧(True)∧Sx.Rw w w' [] [⟨5,1,p.2,(iM (L.take p.1)).length,(iM (L.take p.1)).map iO⟩]∧Sx.St w a' w' 18 [(0,.s a L.length cap),(2,.sn),(3,p.2),(6,.s a L.length cap),(7,.i L.length),(8,.i p.1)] [] []) (λp=>L.length-p.1) (0,(.sn)) (λS=>⟨Õ _,G,R,S.sn⟩) ?_;rintro⟨k,v⟩ ac u ig fC hI;try dsimp only at hI
 obtain⟨hk,hR,R,S⟩:=hI;refine Ė S λS=>È S (decide ((k:Int)<(L.length:Int))) (λkP S=>?_) (λkP S=>?_)
 .have qx:k<L.length:=by have:=å kP; omega
  obtain⟨b10,o11,rfl,x16,wH,FY,Ja⟩:=û h (λ_=>I) (k) qx;have S:=S.view0 FY Ja;refine Å S 5 [] [.idx k L.length,.M 0 0] (hk:=⟨qx,G⟩) λS=>zq S (KY x16 _ (hb x16 (by rw[<-wH]; exact þ _)).1 (hb x16 (by rw[<-wH]; exact þ _)).2) (λv14 u apO BG S=>?_);have hvl:=SI (L.take k);rw[Ľ]at hvl;have hu9:(En.fE 10 (En.zig x16)).length<=10:=En.mF 10 _;obtain⟨R,Y19⟩:=R.dM S (ć BG);refine ċ S λS=>Sx.app S R 0 15 I DU (Ba (apO)) (by show(iM (L.take k)).length+(En.fE 10 (En.zig x16)).length<=9223372036854775807; omega) (by show((iM (L.take k)).length+(En.fE 10 (En.zig x16)).length)*1<=140737488355328; omega) λac u v20 Υ R S=>FV S λS=>Å S 3 [] [.re 16 (.i (IntKind.i64.wrap ((k:Int)+1))) (.i (k+1:Nat))] (hk:=⟨ą Z,G⟩) λS=>ė S ig (λS=>?_);exact fC _ _ ((k+1),v20) ⟨Z,G,R.as (show [(⟨5,1,v20,((iM (L.take k)).length+(En.fE 10 (En.zig x16)).length),((iM (L.take k)).map iO++(En.fE 10 (En.zig x16)).map iO)⟩:Sx.Row)]=[⟨5,1,v20,(iM (L.take (k+1))).length,(iM (L.take (k+1))).map iO⟩] by rw[aaD qx wH]; simp),S.sn⟩ (by show _-_<_-_; omega)
 refine Æ S v (λS=>?_);exact⟨_,I,by have:=R.own _ ë; rw[Ĝ (by have:=ñ kP; omega)]at this; exact this,S.E⟩
abbrev Jb{w:Á}{p:bQ} :
  Ä prog 54 #[.agg p.cells.toArray] w λe w'=>∃v,e = .R v∧OwnB w.heap.size w' v (Px.pb p)∧Ext w w':=by
 skip;refine Ë func54 ntmps54 λS=>Ú S p.cells (λu b2 E3 hb4 S=>?_);have R:=ĺ S;refine Å S 9 [] [.M 0 0,.M 0 1,.M 0 2,.M 0 3] λS=>ċ S λS=>Sx.newRow S R 11 4 5 1 p.cells λac u v6 E7 X8 R S=>FV S λS=>Æ S v6 (λS=>?_);exact⟨_,I,R.own _ ë,S.E⟩
abbrev WJ{l:List UInt8}{p:Nat}(hp:p<=l.length):(En.yO l (p:Int)).2.1<=l.length:=by
 cases h:En.yO l (p:Int)with
 | mk k r =>
  obtain⟨x,er⟩:=r;by_cases he:er=0
  .subst he; obtain⟨c,-,-,h2,-⟩:=Px.ok1 hp h; exact h2
  rw[Px.WG hp]at h;split at h
  .simp only[Ô]at h; omega
  simp only[Ô]at h; show x<=_; omega
def Ϡ(l:List UInt8)(p:Nat)(bad:Bool):Bool:=bad||(En.ν l (p:Int)).2.2 != 0
def riP(l:List UInt8)(p:Nat)(bad:Bool):Nat:=if Ϡ l p bad=true then p else (En.ν l (p:Int)).2.1
def riV(l:List UInt8)(p:Nat)(bad:Bool):Int:=if Ϡ l p bad=true then 0 else (En.ν l (p:Int)).1
abbrev aks{l:List UInt8}(hp:p<=l.length):riP l p bad<=l.length:=by
 unfold riP; split
 .exact hp
 exact WJ hp
abbrev ad8{l:List UInt8}{p:Nat}:I64 (En.ν l (p:Int)).1:=by
 have:=En.ad9 (n:=(En.yO l (p:Int)).1) (WB l p);exact this
abbrev akt{l:List UInt8}{nx:Nat}(hu:En.ν l (p:Int)=(x,nx,er))(h:(bad || !decide ((er:Int)=0))=true):Ϡ l p bad=true∧riP l p bad=p∧riV l p bad=0:=by
 have:Ϡ l p bad=true:=by
  unfold Ϡ; rw[hu];cases bad
  .simp at h |-; omega
  rfl
 unfold riP riV; rw[Ï this,Ï this]; exact⟨this,I,I⟩
abbrev ai8{l:List UInt8}{nx:Nat}(hu:En.ν l (p:Int)=(x,nx,er))(h:(bad || !decide ((er:Int)=0))=false):bad=false∧Ϡ l p bad=false∧riP l p bad=nx∧riV l p bad=x:=by
 have:bad=false∧Ϡ l p bad=false:=by
  unfold Ϡ; rw[hu];cases bad
  .simp at h |-; omega
  simp at h
 unfold riP riV; rw[this.2,hu]; exact⟨this.1,I,by simp,by simp⟩
def ξ(l:List UInt8)(p:Nat)(bad:Bool):Bool:=bad||((En.yO l (p:Int)).2.2 != 0||decide (l.length-(En.yO l (p:Int)).2.1<(En.yO l (p:Int)).1))
def rcP(l:List UInt8)(p:Nat)(bad:Bool):Nat:=if ξ l p bad=true then p else (En.yO l (p:Int)).2.1
def rcV(l:List UInt8)(p:Nat)(bad:Bool):Nat:=if ξ l p bad=true then 0 else (En.yO l (p:Int)).1
abbrev aku{l:List UInt8}(hp:p<=l.length):rcP l p bad<=l.length:=by
 unfold rcP; split
 .exact hp
 exact WJ hp
abbrev akv{l:List UInt8}:rcV l p bad<=l.length:=by
 unfold rcV; split
 .omega
 rename_i h; unfold ξ at h; simp at h; omega
abbrev akw{l:List UInt8}{nx:Nat}(hu:En.yO l (p:Int)=(k,nx,er))(h:¬(bad=false∧er=0∧k<=l.length-nx)):ξ l p bad=true∧rcP l p bad=p∧rcV l p bad=0:=by
 have:ξ l p bad=true:=by
  unfold ξ; rw[hu];cases bad
  .simp at h |-; omega
  rfl
 unfold rcP rcV; rw[Ï this,Ï this]; exact⟨this,I,I⟩
abbrev ai9{l:List UInt8}{nx:Nat}(hu:En.yO l (p:Int)=(k,nx,er))(h:bad=false∧er=0∧k<=l.length-nx):ξ l p bad=false∧rcP l p bad=nx∧rcV l p bad=k:=by
 have:ξ l p bad=false:=by
  unfold ξ; rw[hu];obtain⟨rfl,rfl,h⟩:=h;simp; omega
 unfold rcP rcV; rw[this,hu]; exact⟨I,by simp,by simp⟩
abbrev lC(v u:À)(l m:List UInt8)(w:Á)(hv:bI w v l)(hu:bI w u m) :
  Ä prog 50 #[v,u] w λe w'=>e = .R (.b (l==m))∧w=w':=by
 have s1:=wK (P:=prog) (src:=53) (e:=5) (dst:=9) underlying53 underlying5 underlying9 hv;have s2:=wK (P:=prog) (src:=53) (e:=5) (dst:=9) underlying53 underlying5 underlying9 hu;clear hv hu;go_enter func50,ntmps50
 go_wp2_with fail
 go_ret
 exact⟨I,I⟩
abbrev aaE{w0 w:Á}{a:Option Addr}{pk:Bool}{l:List UInt8}(hE:Ext w0 w)(hx:Bx w b #[.s a l.length cap,.i p,.b bad,.b pk])(hb:w0.heap.size<=b)(h:mD w0 (.s a l.length cap) l)(hp:p<=l.length) :
  Ä prog 77 #[.q b 0] w λe w'=>e = .R (.i (riV l p bad))∧Ext w0 w'∧Ch b w w'∧Bx w' b #[.s a l.length cap,.i (riP l p bad:Nat),.b (Ϡ l p bad),.b pk]:=by
 skip;refine Bd func77 ntmps77 hE hx hb λac S=>Î λ_ ig=>Ç S 1 [] [(2,.i 0)] λS=>Ê<|ig _ _<|ß (λ_ Qw=>?_);obtain⟨xv,nx,er,hu⟩:∃xv nx er,En.ν l (p:Int)=(xv,nx,er):=⟨_,_,_,I⟩;have hwb:I64 xv:=by have:=@ad8 l p; rw[hu]at this; exact this
 refine Ţ S 15 [.M 0 0,.M 0 1] [(_,_,true,.tuple #[.i xv,.i nx,.i er])] [(3,.i xv),(4,.i nx),(18,.i er)] ⟨λu hC g=>(by have hc:=WE (.s a l.length cap) l (p:Int) _ (gq (aI.below h (Ã S.E hC))); rw[hu]at hc; exact hc),G⟩ λac u E3 S=>Ç S 1 [] [(5,.i er)] λS=>Ê<|Qw _ _<|ß λ_ Χ=>Î λ_ zy=>Ç S 8 [.M 0 2] [(26,.b (bad||(((er:Int)) != 0)))] λS=>Ê (zy _ _ ?_);refine Č S (λhc6=>?_) (λhc6=>?_)
 .refine Î λ_ Qx=>Ç S 3 [] [(29,.q b 2)] λS=>ŝ S 0 (off:=2) (v := .b true) I (λu C8 S=>?_);have Fs9:=(cO ((Ch.trans (Ch.refl b w) (Ch.bY E3))) C8 (by first | exact .inl I | exact .inr Z));refine Ê<|Qx _ _<|Î λ_ wX=>Ç S 1 [] [(2,.i 0)] λS=>Ê<|wX _ _<|Ġ ?_;have hq:(bad || !decide ((er:Int)=0))=true:=by cases bad<;>simp at hc6 |- <;> omega
  obtain⟨q1,q2,q3⟩:=akt hu hq;refine rF S results77 ?_;exact⟨by rw[q3],S.E,Fs9,by rw[q1,q2]; have:=S.bx 0; exact this⟩
 refine ÿ<|Χ _ _<|Î λ_ KL=>Ç S 4 [] [(31,.i nx),(33,.q b 1)] λS=>ŝ S 0 (off:=1) (v := .i nx) I (λu C12 S=>?_);have Ic:=(cO ((Ch.trans (Ch.refl b w) (Ch.bY E3))) C12 (by first | exact .inl I | exact .inr Z));refine Ê<|KL _ _<|Î λ_ vZ=>Ç S 2 [] [(2,.i xv)] λS=>Ê<|vZ _ _<|Ġ ?_;have hq:(bad || !decide ((er:Int)=0))=false:=by cases bad<;>simp at hc6 |- <;> omega
 obtain⟨q0,q1,q2,q3⟩:=ai8 hu hq;refine rF S results77 ?_;exact⟨by rw[q3],S.E,Ic,by rw[q1,q2]; have:=S.bx 0; rw[q0]at this; exact this⟩
abbrev SK{w0 w:Á}{a:Option Addr}{pk:Bool}{l:List UInt8}(hE:Ext w0 w)(hx:Bx w b #[.s a l.length cap,.i p,.b bad,.b pk])(hb:w0.heap.size<=b)(h:mD w0 (.s a l.length cap) l)(hp:p<=l.length) :
  Ä prog 80 #[.q b 0] w λe w'=>e = .R (.i (rcV l p bad:Nat))∧Ext w0 w'∧Ch b w w'∧Bx w' b #[.s a l.length cap,.i (rcP l p bad:Nat),.b (ξ l p bad),.b pk]:=by
 have hml:l.length<=9223372036854775807:=h.len;refine Bd func80 ntmps80 hE hx hb λac S=>Î λ_ ig=>Ç S 1 [] [(2,.i 0)] λS=>Ê<|ig _ _<|ß (λ_ Qw=>?_);obtain⟨kk,nx,er,hu⟩:∃kk nx er,En.yO l (p:Int)=(kk,nx,er):=⟨_,_,_,I⟩;have hnx:nx<=l.length:=by have:=@WJ l p hp; rw[hu]at this; exact this
 have hkb:kk<18446744073709551616:=by have:=WB l (p:Int); rw[hu]at this; exact this
 refine Ţ S 15 [.M 0 0,.M 0 1] [(_,_,true,.tuple #[.int .u64 (kk:Int),.i nx,.i er])] [(3,.int .u64 (kk:Int)),(4,.i nx),(18,.i er)] ⟨λu hC g=>(by have hc:=xJ (.s a l.length cap) l (p:Int) _ (gq (aI.below h (Ã S.E hC))); rw[hu]at hc; exact hc),G⟩ λac u E3 S=>Ç S 1 [] [(5,.i er)] λS=>Ê<|Qw _ _<|ß λ_ Χ=>Î λ_ zy=>Ç S 20 [.M 0 2,.M 0 0,.re 35 (.i (IntKind.i64.wrap ((l.length:Int)-(nx:Int)))) (.i (l.length-nx:Nat)),.re 36 (.int .u64 (IntKind.u64.wrap ((l.length-nx:Nat):Int))) (.int .u64 ((l.length-nx:Nat):Int))] [(38,.b ((bad||(((er:Int)) != 0))||(decide (((l.length-nx:Nat):Int)<(kk:Int)))))] (hk:=⟨(xK Z Z),(wrap_u64 Z),G⟩) λS=>Ê (zy _ _ ?_);refine Č S (λhc6=>?_) (λhc6=>?_)
 .refine Î λ_ Qx=>Ç S 3 [] [(41,.q b 2)] λS=>ŝ S 0 (off:=2) (v := .b true) I (λu C8 S=>?_);have Fs9:=(cO ((Ch.trans (Ch.refl b w) (Ch.bY E3))) C8 (by first | exact .inl I | exact .inr Z));refine Ê<|Qx _ _<|Î λ_ wX=>Ç S 1 [] [(2,.i 0)] λS=>Ê<|wX _ _<|Ġ ?_;have hq:¬(bad=false∧er=0∧kk<=l.length-nx):=by rintro⟨h1,h2,h3⟩; rw[h1]at hc6; simp at hc6<;>omega
  obtain⟨q1,q2,q3⟩:=akw hu hq;refine rF S results80 ?_;exact⟨by rw[q3]<;>rfl,S.E,Fs9,by rw[q1,q2]; have:=S.bx 0; exact this⟩
 refine ÿ<|Χ _ _<|Î (λ_ KL=>?_);have hq:bad=false∧er=0∧kk<=l.length-nx:=by cases bad<;>simp at hc6 |- <;> omega
 refine Ç S 4 [] [(43,.i nx),(45,.q b 1)] λS=>ŝ S 0 (off:=1) (v := .i nx) I (λu C12 S=>?_);have Ic:=(cO ((Ch.trans (Ch.refl b w) (Ch.bY E3))) C12 (by first | exact .inl I | exact .inr Z));refine Ê<|KL _ _<|Î λ_ vZ=>Ç S 3 [.re 47 (.i (IntKind.i64.wrap (kk:Int))) (.i kk)] [(2,.i kk)] (hk:=⟨(xK I Z),G⟩) λS=>Ê<|vZ _ _<|Ġ ?_;obtain⟨q1,q2,q3⟩:=ai9 hu hq;refine rF S results80 ?_;exact⟨by rw[q3]<;>rfl,S.E,Ic,by rw[q1,q2]; have:=S.bx 0; rw[hq.1]at this; exact this⟩
abbrev La{w:Á}{v':À}{l m:List UInt8}(h:mD w v l)(h':mD w v' m) :
  Ä prog 114 #[v,v'] w (RF w (.b (decide (m.length<=l.length)&&(l.take m.length==m)))):=by
 obtain⟨a,cap,rfl⟩:=h.shape;obtain⟨d,cap',rfl⟩:=h'.shape;refine Ŗ func114 ntmps114 λac S=>Î λ_ ig=>Ç S 1 [] [(4,.z)] λS=>Ê<|ig _ _<|Î (λ_ Qw=>?_);by_cases hq:m.length<=l.length
 .have hcap:=jo h;refine Ç S 11 [.re 9 (.b ((m.length:Int)<=(l.length:Int))) (.b true),.slc 0 m.length cap cap] [(10,.b true),(14,.s (sO a 0 cap 1) m.length cap),(15,.s d m.length cap')] (hk:=⟨(Ñ Value.b (İ Z)),Z,G⟩) λS=>uY S (some 16) (Đ (lC _ _ (l.take m.length) m _ (gq (aI.below (oP h (l:=0) (h':=m.length) (m:=cap) Z hq Z Z) S.E)) (gq (aI.below h' S.E)))) ?_;rintro e u ⟨rfl,E3⟩;refine⟨_,I,E3,λac S=>?_⟩;refine Ç S 2 [] [(4,.b (l.take m.length==m))] λS=>Ê<|Qw _ _<|Rk S results114 ?_;exact⟨Ñ (λb=>Ending.returned (Value.b b)) (by rw[İ hq,ļ]),S.E⟩
 refine Ç S 14 [.re 9 (.b ((m.length:Int)<=(l.length:Int))) (.z),.dead 11 (.z),.dead 12 (.z),.dead 13 (.z),.dead 14 (.z),.dead 15 (.z),.dead 16 (.z)] [(4,.z)] (hk:=⟨(Ñ Value.b (ľ Z)),G⟩) λS=>Ê<|Qw _ _<|Rk S results114 ?_;exact⟨Ñ (λb=>Ending.returned (Value.b b)) (by rw[ľ hq,ŕ]),S.E⟩
end
end Go.Proofs.Pv
section
namespace Go.Proofs.Pv
open Go.RowKit En Na Nb Go.Sx
variable{α:Type}
abbrev OV(v:À)(l:List UInt8)(w:Á)(hv:bI w v l) :
    Ä prog 260 #[v,.u 0] w λe w'=>∃v',e = .R v'∧bI w v' (ak (Nb.val l))∧w=w':=by
 have hv0:=Â hv;obtain⟨a,cap,rfl,hm,ha⟩:=hv;have hl:=rM hm ha;have hcap:l.length<=cap:=by
  rcases ha with ⟨rfl,_⟩ | ⟨_,_,_,_,h,_⟩
  .simp
  exact h
 have HA:=Â ha;clear ha;unfold maxLen at hm;go_enter func260,ntmps260
 go_wp2
 go_loop [0] (λi=>∃k:Nat,i = .s a k cap∧k<=l.length∧Hid (Nb.val (l.take k)=Nb.val l)) (λi=>match i with | .s _ k _=>k | _=>0)
 case atStart=>exact⟨l.length,I,Ó _,by show _=_; rw[Ħ]⟩
 case round =>
  obtain⟨k,rfl,hk,HV⟩:=hrel;by_cases h0:k=0
  .subst h0;go_wp2
   go_ret
   have hD:ak (Nb.val l)=l.take 0:=Nb.lM Z HV.out (.inl I);have hr:=Gj (cap':=cap) (n:=0) hv0.out Z Z hm (λh=>by
    rcases HA.out with ⟨_,h'⟩ | ⟨_,_,h',_⟩
    .exact h' h
    rw[h]at h'; cases h')
   exact⟨_,I,by rw[hD]; exact hr,I⟩
  obtain⟨j,rfl⟩:∃j,k=j+1:=⟨k-1,Z⟩;rcases HA.out with ⟨rfl,_⟩ | ⟨b,o,rfl,hb,hlc,hc⟩
  .simp at hk
  have hck:=hc j Z;have hlt:j<l.length:=Z
  clear hc;by_cases hz:l[j]=0
  .have HE:Hid (Nb.val (l.take j)=Nb.val l):=by show _=_; rw[<-HV.out,Nb.bT l j hlt,hz]; simp
   have hzb:((l[j].toNat:Int)==0)=true:=by rw[hz]; rfl
   have HZ:=Â hz;clear hz;go_wp2
   go_round
   case rel=>exact⟨j,I,Z,HE⟩
   case measure=>simp
  have hzb:((l[j].toNat:Int)==0)=false:=by
   rw[ä]; intro e; exact hz (Ϩ.1 (by simp; omega))
  have HZ:=Â hz;clear hz;go_wp2
  go_ret
  have hD:ak (Nb.val l)=l.take (j+1):=Nb.lM Z HV.out (.inr ⟨Z,HZ.out⟩);have hr:=Gj (cap':=cap) (n:=j+1) hv0.out Z Z hm (λh=>by cases h);exact⟨_,I,by rw[hD]; exact hr,I⟩
abbrev aea(v:À)(l:List UInt8)(w:Á)(hv:bI w v l) :
    Ä prog 226 #[v,.string ⟨#[0]⟩] w λe w'=>∃v',e = .R v'∧bI w v' (ak (Nb.val l))∧w=w':=by
 have HV:=Â hv;obtain⟨a,cap,rfl⟩:=hv.shape;have HT:=Â (OV _ _ _ hv);have hl:=hv.len;unfold maxLen at hl;clear hv;by_cases h0:l.length=0
 .have e:l=[]:=Ŝ h0;subst e;have HT2:=HV;go_enter func226,ntmps226
  go_wp2_with fail
  go_ret
  exact⟨_,I,HV.out,I⟩
 have h0':((l.length:Int)==0)=false:=by rw[ä]; omega
 go_enter func226,ntmps226
 go_wp2_with fail
 refine HT.out.mono ?_;rintro e w' ⟨v',rfl,hr,rfl⟩;have HR:=Â hr;clear hr HT;go_wp2_with fail
 go_ret
 exact⟨_,I,HR.out,I⟩
abbrev aeb(n:Nat)(w:Á)(hn:n<=100000000000) :
    Ä prog 225 #[.sn,.i n] w λe w'=>∃v',e = .R v'∧w'.ownsRow w.heap.size 5 1 v' 0 ([].map iO)∧Ext w w':=by
 rcases ę n with rfl | h0
 .go_enter func225,ntmps225
  go_wp2_with fail
  go_ret
  exact⟨_,I,ayS _ _ _ _,ù _ _⟩
 obtain⟨i,hi,hz,hsz,hby⟩:=DU.info;have happ:=Lib.run_append_nil_zeros (P:=prog) w 53 3 53 5 i (.u 0) .i64 .i64 underlying53 underlying3 hi hz n h0 Z Z (by rw[hby]; omega);have hge:=grownCap_ge w n 0 5;have hle:=grownCap_le_maxLen w n 0 5 (by unfold maxLen; omega);have hzc:∀k,(Builtin.zeroCells (Value.u 0).cells k).size=k:=λk=>by
  have hc1:(Value.u 0).cells.size=1:=I;simp[Builtin.zeroCells,hc1]
 have hown:=World.ownsRow_made (base:=w.heap.size) (e:=5) (size:=1) w.drew (Builtin.zeroCells (Value.u 0).cells n++Builtin.zeroCells (Value.u 0).cells (grownCap w n 0 5-n)) (grownCap w n 0 5) (Ó _) hle (by rw[Array.size_append,hzc,hzc]; omega);have HO:=Â hown;clear hown;go_enter func225,ntmps225
 go_wp2_with (at_builtin; refine Lib.wpList_append_run _ I _ _ _ _ I _ _ I I _ _ happ ?_)
 go_ret
 exact⟨_,I,HO.out,(below_drewN (ù _ _) 1).alloc (Ó _) _⟩
def cat(ls:List (List UInt8))(k:Nat):List UInt8:=(ls.take k).flatten
abbrev CS(ls:List (List UInt8))(k:Nat)(hk:k<ls.length):cat ls (k+1)=cat ls k++ls[k]:=by
 unfold cat; rw[take_snoc ls k hk,List.flatten_append]; simp
abbrev ahl(ls:List (List UInt8)):cat ls ls.length=ls.flatten:=by unfold cat; rw[Ħ]
abbrev Bf(ls:List (List UInt8))(k:Nat):(cat ls k).length<=ls.flatten.length:=by
 unfold cat;conv=>rhs; rw[<-ň k ls,List.flatten_append,ì]
 omega
abbrev WL(v:À)(ls:List (List UInt8))(w:Á)(hv:yD w v ls)(hlen:ls.flatten.length<=1000000000) :
    Ä prog 176 #[v] w λe w'=>∃v',e = .R v'∧w'.ownsRow w.heap.size 5 1 v' ls.flatten.length (ls.flatten.map iO)∧Ext w w':=by
 obtain⟨a,cap,rfl,hm,ha⟩:=hv;have hl:=acj hm ha;have HA:=Â ha;clear ha;go_enter func176,ntmps176
 go_wp2_with fail
 go_loop [3,11] (λs i=>∃k:Nat,i = .i k∧k<=ls.length∧s = .i ((cat ls k).length:Nat)) (λ_ i=>ls.length-(intOf i).toNat)
 case atStart=>exact⟨0,I,Õ _,I⟩
 case round =>
  obtain⟨k,rfl,hk,rfl⟩:=hrel;have hle:=Bf ls k;by_cases hlt:k<ls.length
  .rcases HA.out with ⟨rfl,_⟩ | ⟨b,o,rfl,hb,hlc,hc⟩
   .simp at hlt
   obtain⟨x,hx,hxr⟩:=hc k hlt;obtain⟨ax,cx,rfl⟩:=hxr.shape;have hf:((cat ls (k+1)).length:Int)=((cat ls k).length:Int)+((ls[k]).length:Int):=by rw[CS ls k hlt]; simp
   have hle2:=Bf ls (k+1);have hs:((cat ls k).length:Int)+((ls[k]).length:Int)<=1000000000:=Z
   have HF:=Â hf;clear hc hxr hf;go_wp2_with fail
   go_round
   case rel =>
    exact⟨k+1,by go_num,Z,Gh HF.out.symm⟩
   case measure=>simp[intOf]; omega
  obtain rfl:k=ls.length:=by omega
  have hG:=aeb (cat ls ls.length).length w Z;have HG:=Â hG;clear hG hle;go_wp2_with fail
  refine HG.out.mono ?_;rintro e w1 ⟨g,rfl,ho,hb⟩;have HO:=Â ho;have HB:=Â hb;clear ho hb HG;go_wp2_with fail
  go_loopw [6,27] (λg i wr=>∃k:Nat,i = .i k∧k<=ls.length∧wr.ownsRow w.heap.size 5 1 g (cat ls k).length ((cat ls k).map iO)∧Ext w wr) (λ_ i _=>ls.length-(intOf i).toNat)
  case atStart=>exact⟨0,I,Õ _,HO.out,HB.out⟩
  case round =>
   obtain⟨k,rfl,hk,hown,hbel⟩:=hrel;by_cases hlt2:k<ls.length
   .rcases HA.out with ⟨h,_⟩ | ⟨b,o,rfl,hb,hlc,hc⟩
    .rw[h]at hlt2; simp at hlt2
    obtain⟨x,hx,hxr⟩:=hc k hlt2;have anf:=hxr.below hbel;have hx':wr.cell? ⟨b,o+k,none⟩=some x:=by rw[hbel.cell (p:=⟨b,o+k,none⟩) hb]; exact hx
    have hraw:=anf.raw (λ_=>I);have hf:=CS ls k hlt2;have hle2:=Bf ls (k+1);have h63:(cat ls k).length+(ls[k]).length<=maxLen:=by
     rw[hf,ì]at hle2; unfold maxLen; omega
    have hby:((cat ls k).length+(ls[k]).length)*1<=140737488355328:=by
     rw[hf,ì]at hle2; omega
    have hsz:=hbel.size;have HF:=Â hf;clear hc hxr hx hf anf hle2;go_wp2_with (at_builtin; refine bD I _ _ _ I DU w.heap.size hown I hraw I h63 hby hsz ?_; intro v' w' hown2 hg)
    go_roundw
    case rel =>
     refine⟨k+1,by go_num,Z,?_,hbel.grown hg hsz (λk hk=>(World.ownsRow.lt hown k hk).1)⟩;rw[HF.out,ì,ĥ]; exact hown2
    case measure=>simp[intOf]; omega
   obtain rfl:k=ls.length:=by omega
   rw[ahl]at hown;go_wp2_with fail
   go_ret
   exact⟨_,I,hown,hbel⟩
attribute [local go_sem] Go.Rel.Does Go.Rel.Upon Go.Rel.kept Go.Rel.valOf
abbrev qA(v:À)(l:List UInt8)(w:Á)(hv:bI w v l)(hlen:l.length<=1000000000) :
    Ä prog 29 #[v] w λe w'=>∃v',e = .R v'∧w'.ownsRow w.heap.size 5 1 v' (iy l).length ((iy l).map iO)∧Ext w w':=by
 have HP:=Â (jK l.length w Z);have HV:=Â hv;obtain⟨a,cap,rfl⟩:=hv.shape;clear hv;go_enter func29,ntmps29
 go_wp2_with fail
 refine HP.out.mono ?_;rintro e w1 ⟨v',rfl,ho,hb⟩;have hraw:=(HV.out.below hb).raw (λ_=>I);have SL:=mF 10 l.length;have h63:(fE 10 l.length).length+l.length<=maxLen:=by unfold maxLen; omega
 have hby:((fE 10 l.length).length+l.length)*1<=140737488355328:=Z
 have hsz:=hb.size;clear HP;go_wp2_with (at_builtin; refine bD I _ _ _ I DU w.heap.size ho I hraw I h63 hby hsz ?_; intro v2 w2 hown2 hg)
 go_ret
 refine⟨_,I,?_,hb.grown hg hsz (λk hk=>(World.ownsRow.lt ho k hk).1)⟩;unfold iy;rw[ì,ĥ];exact hown2
abbrev ahm(d:UInt32):(Nb.le4 d).map iO=[.u ((d.toNat:Int)%256),.u ((d.toNat:Int)/256%256),.u ((d.toNat:Int)/65536%256),.u ((d.toNat:Int)/16777216%256)]:=by
 simp[Nb.le4,iO,UInt32.toNat_shiftRight,Nat.shiftRight_eq_div_pow]
abbrev OW(n:Nat):(ak n).length<=4*(LZ n).length:=by
 apply Nb.dn;have h:=Na.dV (LZ n);rw[L6]at h;have e:Nb.B^(4*(LZ n).length)=JH^(LZ n).length:=by
  rw[Nat.pow_mul]; rfl
 rw[e]; exact h
abbrev MK(neg:Bool)(s:À)(l:List UInt32)(w:Á)(hs:aF w s l)(hlen:l.length<=100000000) :
    Ä prog 177 #[.agg #[.b neg,s]] w λe w'=>∃v',e = .R v'∧bI w' v' (ak (Pq l))∧Ext w w':=by
 have hb0:=aH w (.cells #[.b neg,s] 24);have HS:=Â (hs.below hb0);obtain⟨a,cap,rfl⟩:=hs.shape;have HB0:=Â hb0;clear hs hb0;go_enter func177,ntmps177
 go_wp2_with fail
 go_loopw [3,9] (λv i wr=>∃k:Nat,i = .i k∧k<=l.length∧wr.ownsRow (w.heap.size+1) 5 1 v (Nb.bytes (l.take k)).length ((Nb.bytes (l.take k)).map iO)∧Ext (w.alloc (.cells #[.b neg,.s a l.length cap] 24)) wr) (λ_ i _=>l.length-(intOf i).toNat)
 case atStart=>exact⟨0,I,Õ _,ayS _ _ _ _,ù _ _⟩
 case round =>
  obtain⟨k,rfl,hk,hown,hbel⟩:=hrel;have hbl:=ZR (l.take k);have htl:(l.take k).length=k:=by simp; omega
  have hsz0:=hbel.size;simp only[ayX]at hsz0;by_cases hlt:k<l.length
  .obtain⟨b,o,c,hsv,hb,hlc,hm,hc⟩:=dH HS.out I Z;simp only[Ĉ]at hsv;obtain⟨rfl,-,-⟩:=hsv;have hck:wr.cell? ⟨b,o+k,none⟩=some (aU l[k]):=by rw[hbel.cell (p:=⟨b,o+k,none⟩) hb]; exact hc k hlt
   clear hc;obtain⟨d,hd⟩:∃d,l[k]=d:=⟨_,I⟩;rw[hd]at hck;have hraw:=NH wr #[.u ((d.toNat:Int)%256),.u ((d.toNat:Int)/256%256),.u ((d.toNat:Int)/65536%256),.u ((d.toNat:Int)/16777216%256)] 5 4 1 I (by unfold maxLen; omega) (by
    intro u hu;simp only[ç,List.not_mem_nil,or_false]at hu;rcases hu with rfl | rfl | rfl | rfl<;>rfl)
   have hown':=hown.alloc (.cells #[.u ((d.toNat:Int)%256),.u ((d.toNat:Int)/256%256),.u ((d.toNat:Int)/65536%256),.u ((d.toNat:Int)/16777216%256)] 5);have hsz1:w.heap.size+1<=(wr.alloc (.cells #[.u ((d.toNat:Int)%256),.u ((d.toNat:Int)/256%256),.u ((d.toNat:Int)/65536%256),.u ((d.toNat:Int)/16777216%256)] 5)).heap.size:=by simp; omega
   have h63:(Nb.bytes (l.take k)).length+4<=maxLen:=by unfold maxLen; omega
   have hby:((Nb.bytes (l.take k)).length+4)*1<=140737488355328:=Z
   have HT:Hid (Nb.bytes (l.take (k+1))=Nb.bytes (l.take k)++Nb.le4 d):=by show _=_; rw[take_snoc l k hlt,hd,Va]
   have HO:=Â hown;clear hd hown hbl htl;go_wp2_with (at_builtin; refine bD I _ _ _ I DU (w.heap.size+1) hown' I hraw I h63 hby hsz1 ?_; intro v' w' hown2 hg)
   go_roundw
   case rel =>
    refine⟨k+1,by go_num,Z,?_,?_⟩
    .rw[HT.out,ì,ĥ,ahm]; exact hown2
    exact(hbel.alloc (by simpa using hsz0) _).grown hg (by simpa using hsz1) (λk hk=>by have:=(World.ownsRow.lt hown' k hk).1; simpa using this)
   case measure=>simp[intOf]; omega
  obtain rfl:k=l.length:=by omega
  have hown3:=aS hown;have ht:=aea _ _ wr hown3;rw[Ħ,ZT]at ht;have HT:=Â ht;clear ht hown hown3 hbl htl;go_wp2_with fail
  refine HT.out.mono ?_;rintro e w' ⟨v',rfl,hr,rfl⟩;have HR:=Â hr;clear hr;go_wp2_with fail
  go_ret
  exact⟨_,I,HR.out,Ã HB0.out hbel⟩
end Go.Proofs.Pv
namespace Go.Proofs.Pv
open Go.RowKit En Na Nb Go.Sx
variable{α:Type}
attribute [local go_sem] Go.Rel.Does Go.Rel.Upon Go.Rel.kept Go.Rel.valOf
def iG(r:Bool×Nat×Nat):List UInt8:=(if r.1 then 1 else 0)::(iy (ak r.2.1)++iy (ak r.2.2))
abbrev aaF{R:Á->À->α->Prop}(w:Á)(x y z:À)(a b c:α)(e:TypeId)(h1:R (w.alloc (.cells #[x,y,z] e)) x a)(h2:R (w.alloc (.cells #[x,y,z] e)) y b)(h3:R (w.alloc (.cells #[x,y,z] e)) z c) :
    G8 R (w.alloc (.cells #[x,y,z] e)) (.s (some ⟨w.heap.size,0,none⟩) 3 3) [a,b,c]:=by
 refine⟨_,_,I,by unfold maxLen; omega,.inr ⟨_,_,I,by simp,Ó _,λi hi=>?_⟩⟩;rw[Ĳ,World.cell?_alloc_at _ _ _ _ I];rcases i with _ | _ | _ | i
 .exact⟨x,I,h1⟩
 .exact⟨y,I,h2⟩
 .exact⟨z,I,h3⟩
 exact absurd hi Y
abbrev WM{w w':Á}{v:À}{ls:List (List UInt8)}(h:yD w v ls)(hb:Ext w w'):yD w' v ls:=G8.below (λ_ _ _ _ hb h=>h.below hb) h hb
abbrev au.parts{base:Nat}{w:Á}{s t:À}{n m neg:Bool}{a b:Nat}(h:au base w (.agg #[.b n,s,.b m,t]) neg a b) :
    aF w s (LZ a)∧aF w t (LZ b)∧From base s∧From base t:=by
 obtain⟨s',t',e,hs,ht,fs,ft⟩:=h;simp only[Ŧ,ť,ģ,and_true]at e;obtain⟨-,rfl,-,rfl⟩:=e;exact⟨hs,ht,fs,ft⟩
abbrev vY(n1 n2:Bool)(s1 s2:À)(l m:List UInt32)(w:Á)(h1:aF w s1 l)(h2:aF w s2 m)(hl1:l.length<=50000000)(hl2:m.length<=50000000) :
    Ä prog 127 #[.agg #[.b n1,s1,.b n2,s2]] w λe w'=>∃v,e = .R v∧w'.ownsRow w.heap.size 5 1 v (iG (nrm n1 n2 (Pq l) (Pq m))).length ((iG (nrm n1 n2 (Pq l) (Pq m))).map iO)∧Ext w w':=by
 have hln:=YT n1 n2 l m;have hb0:=aH w (.cells #[.b n1,s1,.b n2,s2] 26);have HC:=Â (pq n1 n2 s1 s2 l m _ (h1.below hb0) (h2.below hb0) Z Z);have HB0:=Â hb0;obtain⟨a1,c1,rfl⟩:=h1.shape;obtain⟨a2,c2,rfl⟩:=h2.shape;generalize nrm n1 n2 (Pq l) (Pq m)=r at *;obtain⟨ng,a,b⟩:=r;simp only at hln;clear h1 h2 hb0;go_enter func127,ntmps127
 go_wp2_with fail
 refine HC.out.mono ?_;rintro e w1 ⟨x,rfl,hx,hb1⟩;obtain⟨b1,d1,b2,d2,rfl⟩:=hx.shape;obtain⟨r0,f0,hz⟩:=iW hb1;have F:=Â hx;have HB1:=Â (Ã HB0.out hb1);clear hx hb1 HC;obtain⟨sg,hsg⟩:∃sg:UInt8,sg=if ng then 1 else 0:=⟨_,I⟩
 obtain⟨nb,hnb⟩:∃nb:Bool,nb=ng:=⟨_,I⟩;obtain⟨q,hq⟩:∃q,q=iG (nb,a,b):=⟨_,I⟩;have HQ:Hid ([[sg],iy (ak a),iy (ak b)].flatten=q):=by
  show _=_;rw[hq,hsg,hnb]; simp[iG]
 have hql:([[sg],iy (ak a),iy (ak b)].flatten).length<=1000000000:=by
  have:=OW a;have:=OW b;have:=mF 10 (ak a).length;have:=mF 10 (ak b).length;simp[iy]; omega
 have HQL:=Â hql;have tH:=Â hq;have HSG:=Â hsg;have HNB:=Â hnb;clear hq hql;clear hsg hnb;have hqa:=OW a;have ο:=OW b;have HP:=Â (F.out.parts);clear F;rcases azh ng with rfl | rfl;all_goals
  go_wp2_with fail
  generalize hW:World.setCell _ _ _=W
  have hWb:Ext w W:=by rw[<-hW]; exact qP HB1.out (Ó _) _ _ _ _
  have hk:∀w',Ext W w'->w'.cell? ⟨w.heap.size,0,none⟩=some (.b nb)∧w'.cell? ⟨w.heap.size,1,none⟩=some (.s b1 (LZ a).length d1)∧w'.cell? ⟨w.heap.size,2,none⟩=some (.z)∧w'.cell? ⟨w.heap.size,3,none⟩=some (.s b2 (LZ b).length d2):=by
    intro w' hw'
    have hWz:w.heap.size<W.heap.size:=by rw[<-hW]; simpa[World.setCell]using hz
    refine⟨?_,?_,?_,?_⟩
    · rw[hw'.cell (p:=⟨w.heap.size,0,none⟩) hWz,<-hW,HNB.out]; simp[go_sem,r0]
    · rw[hw'.cell (p:=⟨w.heap.size,1,none⟩) hWz,<-hW]; simp[go_sem,r0]
    · rw[hw'.cell (p:=⟨w.heap.size,2,none⟩) hWz,<-hW]; simp[go_sem,r0]
    · rw[hw'.cell (p:=⟨w.heap.size,3,none⟩) hWz,<-hW]; simp[go_sem,r0]
  have HK:=Â hk
  have hA:aF W (.s b1 (LZ a).length d1) (LZ a):=by
    rw[<-hW]; exact HP.out.1.ch (((((Ch.refl w.heap.size _).setCell _ _).setCell _ _).setCell _ _).setCell _ _) (λ_=>HP.out.2.2.1.off Y)
  have hB:aF W (.s b2 (LZ b).length d2) (LZ b):=by
    rw[<-hW]; exact HP.out.2.1.ch (((((Ch.refl w.heap.size _).setCell _ _).setCell _ _).setCell _ _).setCell _ _) (λ_=>HP.out.2.2.2.off Y)
  have HAB:=Â (And.intro hA hB)
  have HWB:=Â hWb
  clear hk hW hWb hA hB
  refine Go.Rel.wp_region 12 X X Ext (λw'=>Ext W w')
    [Rel.is (iO sg),λv w'=>bI w' v [sg],Rel.is (.q w.heap.size 0),Rel.is (.agg #[.b nb,.s b1 (LZ a).length d1]),
     λv w'=>bI w' v (ak a),λv w'=>bI w' v (iy (ak a)),Rel.is (.q w.heap.size 2),Rel.is (.agg #[.z,.s b2 (LZ b).length d2]),
     λv w'=>bI w' v (ak b),λv w'=>bI w' v (iy (ak b)),λv w'=>yD w' v [[sg],iy (ak a),iy (ak b)],
     λv w'=>OwnB w.heap.size w' v q]
    ?_ ?_ ?_ ⟨?_,?_,?_,?_,?_,?_,?_,?_,?_,?_,?_,?_,G⟩ ?_
  · exact below_drewN (ù _ _) 1
  · exact λ_ _ h k=>Ã h k
  · exact Rel.EF.mem ⟨Rel.aB _,λ_ _ _ h k=>k.below h,Rel.aB _,Rel.aB _,λ_ _ _ h k=>k.below h,λ_ _ _ h k=>k.below h,Rel.aB _,Rel.aB _,λ_ _ _ h k=>k.below h,λ_ _ _ h k=>k.below h,
      λ_ _ _ h k=>WM k h,λ_ _ _ h k=>dO k h,G⟩
  · intro ρ w' hs ho hC hd
    have h2:ρ (.tmp 3)=iO sg:=(ho 3 I).trans (by rw[HSG.out]; rfl)
    simp[go_sem,h2]
    exact⟨ô,I⟩
  · intro ρ w' hs ho hC hd
    obtain⟨hd1,-⟩:=hd
    have h1:ρ (.tmp 9)=_:=hd1 I
    simp[go_sem,h1]
    exact⟨aH _ _,NI _ [sg] _ (by unfold maxLen; simp)⟩
  · intro ρ w' hs ho hC hd
    have h2:ρ (.tmp 1) = .q w.heap.size 0:=ho 1 I
    simp[go_sem,h2]
    exact⟨ô,I⟩
  · intro ρ w' hs ho hC hd
    obtain⟨hd1,-⟩:=hd
    have h1:ρ (.tmp 11)=_:=hd1 I
    obtain⟨k1,k2,-⟩:=HK.out w' hC
    simp[go_sem,h1,k1,k2]
    exact⟨ô,I⟩
  · intro ρ w' hs ho hC hd
    obtain⟨hd1,-⟩:=hd
    have h1:ρ (.tmp 12)=_:=hd1 I
    simp[go_sem,h1,hs.func]
    have hc:=MK nb _ _ w' (HAB.out.1.below hC) Z
    rw[L6]at hc
    refine hc.mono ?_
    rintro e w'' ⟨v,rfl,hr,hb⟩
    exact⟨_,I,hb,hr⟩
  · intro ρ w' hs ho hC hd
    obtain⟨hd1,-⟩:=hd
    have h1:bI w' (ρ (.tmp 13)) _:=hd1 I
    simp[go_sem,hs.func]
    refine(qA _ _ w' h1 Z).mono ?_
    rintro e w'' ⟨v,rfl,hr,hb⟩
    exact⟨_,I,hb,aS hr⟩
  · intro ρ w' hs ho hC hd
    have h2:ρ (.tmp 1) = .q w.heap.size 0:=ho 1 I
    simp[go_sem,h2]
    exact⟨ô,I⟩
  · intro ρ w' hs ho hC hd
    obtain⟨hd1,-⟩:=hd
    have h1:ρ (.tmp 15)=_:=hd1 I
    obtain⟨-,-,k1,k2⟩:=HK.out w' hC
    simp[go_sem,h1,k1,k2]
    exact⟨ô,I⟩
  · intro ρ w' hs ho hC hd
    obtain⟨hd1,-⟩:=hd
    have h1:ρ (.tmp 16)=_:=hd1 I
    simp[go_sem,h1,hs.func]
    have hc:=MK false _ _ w' (HAB.out.2.below hC) Z
    rw[L6]at hc
    refine hc.mono ?_
    rintro e w'' ⟨v,rfl,hr,hb⟩
    exact⟨_,I,hb,hr⟩
  · intro ρ w' hs ho hC hd
    obtain⟨hd1,-⟩:=hd
    have h1:bI w' (ρ (.tmp 17)) _:=hd1 I
    simp[go_sem,hs.func]
    refine(qA _ _ w' h1 Z).mono ?_
    rintro e w'' ⟨v,rfl,hr,hb⟩
    exact⟨_,I,hb,aS hr⟩
  · intro ρ w' hs ho hC hd
    obtain⟨hd1,hd2,hd3,-⟩:=hd
    have h1:bI w' (ρ (.tmp 10)) _:=hd1 I
    have h2:bI w' (ρ (.tmp 14)) _:=hd2 I
    have h3:bI w' (ρ (.tmp 18)) _:=hd3 I
    obtain⟨x1,y1,e1⟩:=h1.shape
    obtain⟨x2,y2,e2⟩:=h2.shape
    obtain⟨x3,y3,e3⟩:=h3.shape
    rw[e1]at h1
    rw[e2]at h2
    rw[e3]at h3
    simp[go_sem,e1,e2,e3]
    exact⟨aH _ _,aaF w' _ _ _ _ _ _ _ (h1.below (aH _ _)) (h2.below (aH _ _)) (h3.below (aH _ _))⟩
  · intro ρ w' hs ho hC hd
    obtain⟨hd1,-⟩:=hd
    have h1:yD w' (ρ (.tmp 19)) _:=hd1 I
    simp[go_sem,hs.func]
    refine(WL _ _ w' h1 HQL.out).mono ?_
    rintro e w'' ⟨v,rfl,hr,hb⟩
    refine⟨_,I,hb,?_⟩
    rw[HQ.out]at hr
    exact bK hr (by have:=(Ã HWB.out hC).size; exact this)
  · intro w' hC
    rintro _ rfl v1 h1 _ rfl _ rfl v4 h4 v5 h5 _ rfl _ rfl v8 h8 v9 h9 v10 h10 v11 h11
    change Ð _ _ _ (List.drop 12 _) _ _
    simp only[List.drop_succ_cons,aza]
    have h12:Hid (w'.ownsRow w.heap.size 5 1 v11 (iG (nb,a,b)).length ((iG (nb,a,b)).map iO)):=by
      have:=tH.out
      rw[<-this]; exact h11
    rw[HNB.out]at h12
    have HX:=Â (Ã HWB.out hC)
    clear h1 h4 h5 h8 h9 h10 h11
    go_wp2_with fail
    go_ret
    exact⟨v11,I,h12.out,HX.out⟩
end Go.Proofs.Pv
end
namespace Go.Proofs.Pv
section
open En
variable{α:Type}
abbrev iB (x:Int):List UInt8:=fE 10 (zig x)
def qB(f:α->List UInt8)(l:List α):List UInt8:=fE 10 l.length++l.flatMap f
def FZ(s:dQ):List UInt8:=iM [s.verb,s.a.x,s.a.y,s.b.x,s.b.y,s.c.x,s.c.y]
def ang(s:fH):List UInt8:=iM [s.o]++Px.pb s.c
def anh(pk:Bool)(m:Cj):List UInt8:=iM [m.w,m.h]++(if pk=true then iy (Px.enc m.l)else m.l.flatMap Px.pb)
def Bg(q:Q6):List UInt8:=[q.a,q.b,q.c,q.d,q.e,q.f].flatMap iG
def aec(pk:Bool)(p:sV):List UInt8:=iM [p.kind]++Px.pb p.color++iM [p.p0.x,p.p0.y,p.p1.x,p.p1.y,p.bG]++qB ang p.stops++iM [p.spread]++anh pk p.img++iM [p.dw]++Bg p.q
def apP(p:sW):List UInt8:=iM [p.width,p.join,p.cap,p.eu,p.phase]++qB iB p.dash
def rH(b:Bool):UInt8:=if b=true then 1 else 0
def CU(pk:Bool)(n:aN):List UInt8:=
 if n.kind=1 then [n.dP]++iM [n.blend]++[rH n.isolated,rH n.cZ]
 else if n.kind=2 then qB FZ n.path++iM [n.aW]++qB (aec pk) n.fill++qB (aec pk) n.stroke++(if 0<n.stroke.length then apP n.style else [])
 else if n.kind=3 then anh pk n.img++iM [n.dw]else []
def ji(pk:Bool)(n:aN):List UInt8:=iM [n.id,n.kind,n.depth]++Bg n.q++qB FZ n.clip++iM [n.aJ]++CU pk n
def eP(s:aV):List UInt8:=[71,83,49]++iM [s.w,s.h]++Px.pb s.bg++qB (ji false) s.ns
def Qy(pk:Bool)(e:bH):List UInt8:=iM [e.kind,e.id,e.index,e.depth]++(if e.kind=1∨e.kind=4 then ji pk e.node else if e.kind=5 then Px.pb e.color else [])
def lW(e:bH):List UInt8:=[71,69,49]++Qy false e
variable{f:α->List UInt8}{N:Nat}
abbrev Gx{l:List α}{k:Nat}{x:α}(hk:k<l.length)(hx:l[k]=x)(B:List UInt8):B++(l.take k).flatMap f++f x=B++(l.take (k+1)).flatMap f:=by
 rw[ı hk,hx,ŉ]; simp
abbrev aja{l:List α}{B:List UInt8}(h:(B++l.flatMap f).length<=N)(k:Nat):(B++(l.take k).flatMap f).length<=N:=by
 rw[ì]at h |-;have:((l.take k).flatMap f).length<=(l.flatMap f).length:=by
  conv=>rhs; rw[<-ň k l,ŉ,ì]
  omega
 omega
abbrev akx{l:List α}(h:(l.flatMap f).length<=N):∀x∈l,(f x).length<=N:=λx hx=>by
 obtain⟨s,t,rfl⟩:=List.append_of_mem hx;rw[ŉ,ł,ì,ì]at h;omega
abbrev ahn{l:List α}{B:List UInt8}(h:(B++l.flatMap f).length<=N):∀x∈l,(f x).length<=N:=akx (by rw[ì]at h; omega)
end
section
open En
variable{α:Type}{K:Nat}
abbrev ajb{n:Nat}(h:bl n<=256):n<Nb.B^32:=by
 show n<256^32;rw[show(256:Nat)^32=2^256 by rfl];unfold bl at h;split at h
 .omega
 exact ā Nat.lt_log2_self (ĸ O h)
end
end Go.Proofs.Pv
section
namespace Go.Sx
open Go.Proofs Go.Proofs.Pv Go.RowKit Go.Rel Na Nb Go.Sx
section
variable{P:Program}{ops:Array Oper}{Q:Exit->Act->Á->Prop}{w0 w:Á}{a:Act}{os:List Oper}{n:Nat}{l:List (Nat×À)}{bl:List (Nat×List À)}{vs:List eU}{rs:List Row}
abbrev bR (v:À)(B:List UInt8):Row:=⟨5,1,v,B.length,B.map iO⟩
abbrev ů{v:À}{B:List UInt8}(S:St w0 a w n l bl vs)(R:Rw w0 w bl (bR v B::rs))(d:Nat){y:À}(ê:List UInt8)(hy:dN w 1 y ê.length (ê.map iO))(hb:(B++ê).length<=100000000000)
  (next:∀a' w' v',Stp (Ob bl (bR v B::rs)) w (Ob bl (bR v' (B++ê)::rs)) w'->Rw w0 w' bl (bR v' (B++ê)::rs)->St w0 a' w' n ((d,v')::l) bl []->Ð prog ops Q (os.drop 1) a' w')
  (hx:Jc os l=some (53,v,y,some d):=by kernel_rfl) (hd:uN n (some d)=true:=by rfl):Ð prog ops Q os a w:=by
 rw[ì]at hb;refine app S R 0 d I DU hy (by show B.length+ê.length<=9223372036854775807; omega) (by show(B.length+ê.length)*1<=140737488355328; omega) (λa' w' v' ý R S=>?_) hx hd;have e:(⟨5,1,v',B.length+ê.length,B.map iO++ê.map iO⟩:Row)=bR v' (B++ê):=by simp[bR]
 have ý:Stp (Ob bl (bR v B::rs)) w (Ob bl ((⟨5,1,v',B.length+ê.length,B.map iO++ê.map iO⟩:Row)::rs)) w':=ý;have R:Rw w0 w' bl ((⟨5,1,v',B.length+ê.length,B.map iO++ê.map iO⟩:Row)::rs):=R;rw[e]at ý R;exact next a' w' v' ý R S
abbrev ani(S:St w0 a w n l bl vs){f:FuncId}{args:Array À}{R:Ending->Á->Prop}(d:Option Nat)(hc:Ä P f args w R)
  (next:∀e w',R e w'->∃V,e = .R V∧Ext w0 w'∧∀a',St w0 a' w' n (zo l d V) [] []->Ð P ops Q (os.drop 1) a' w') (hx:callOf P os l=some (f,args,d):=by kernel_rfl) (hd:uN n d=true:=by rfl):Ð P ops Q os a w:=by
 cases os with
 | nil=>cases hx
 | cons o os =>
  unfold callOf at hx;simp only at hx;split at hx
  .rename_i f' args' hg hav hev;simp only[Ò,Ô]at hx;obtain⟨rfl,rfl,rfl⟩:=hx;simp only[Ĕ]at hav;have hrun:(execOp a.eval o).run P w = .ok (.enter f' args') w:=kH (Std.act a) (gG (bU S.s) o) (p:=[]) I hav.1 (by simpa using hav.2) hev;unfold Ð;rw[Ï (by simp[Region.wanted,hg])];left;unfold Oper.wp;rw[hrun];simp only[Oper.upon];refine hc.mono λe w' hR=>?_;obtain⟨V,rfl,hE,next⟩:=next e w' hR;exact next _ ⟨uf S.s hd V,hE,λp hp=>(by cases hp),List.nodup_nil,λm hm=>by cases hm⟩
  cases hx
end
abbrev CV{α:Type}{f:α->List À}{k:Nat}{w:Á}{b:Nat}(L:List α)(hf:∀x,(f x).length=k)(hx:Bx w b (L.flatMap f).toArray)(hl:L.length<=maxLen):aI k f w (.s (some ⟨b,0,none⟩) L.length L.length) L:=
 ⟨_,_,I,hl,.inr ⟨b,0,I,hx.1,Ó _,λi hi j hj=>by
  have:=hx.2.1 (0+i*k+j)
  rw[Ĳ]at this |-
  rw[this,<-rX hf L i hi j hj]; simp⟩⟩
end Go.Sx
namespace Go.Proofs.Pv
open Go.RowKit Na Nb Go.Sx
variable{base:Nat}{v:À}
abbrev YU{L:List Int}{w:Á}(h:iK base (L.map λx => .i x) (some L.length) v w)(hl:L.length<=maxLen):ad7 w v L:=by
 obtain⟨b,rfl,-,hx⟩:=h;exact vH (f:=λx:Int => .i x) L hx hl
def OX:List Int->Prop
 | []=>True
 | x::L=>I64 x∧OX L
abbrev OX.all:∀{L:List Int},OX L->∀x∈L,I64 x
 | _::_,h,x,hx=>by
  rcases ç.1 hx with rfl | hx
  .exact h.1
  .exact OX.all h.2 x hx
abbrev CW{w0 w:Á}{B:List UInt8}{bl:List (Nat×List À)}(R:Sx.Rw w0 w bl [])(h:OwnB base w v B)(hb:∀p∈bl,p.1<base)(h0:w0.heap.size<=base):Sx.Rw w0 w bl [Sx.bR v B]:=
 R.add h (λb hb'=>by
  simp only[Sx.Ob,List.filterMap_nil,ņ]at hb'
  obtain⟨p,hp,rfl⟩:=Ć.1 hb'
  exact hb p hp) h0
end Go.Proofs.Pv
namespace Go.Proofs.Pv
open En
variable{α:Type}{K:Nat}
structure Cj.Good (m:Cj):Prop where
 w:I64 m.w
 h:I64 m.h
 n:(m.l.length:Int)=m.w*m.h
 len:m.l.length<=65536
structure sW.Good (p:sW):Prop where
 i:I64 p.width∧I64 p.join∧I64 p.cap∧I64 p.eu∧I64 p.phase
 dash:p.dash.length<=16∧∀x∈p.dash,I64 x
def sW.zero:sW:=⟨0,0,0,0,[],0⟩
def Cj.zero:Cj:=⟨0,0,[]⟩
def aN.canon(n:aN):aN:=
 if n.kind=1 then { n with path:=[],aW:=0,fill:=[],style := .zero,stroke:=[],img := .zero,dw:=0 }
 else if n.kind=2 then { n with dP:=0,blend:=0,isolated:=false,cZ:=false,style:=(if 0<n.stroke.length then n.style else .zero),img := .zero,dw:=0 }
 else if n.kind=3 then { n with dP:=0,blend:=0,isolated:=false,cZ:=false,path:=[],aW:=0,fill:=[],style := .zero,stroke:=[] }
 else { n with dP:=0,blend:=0,isolated:=false,cZ:=false,path:=[],aW:=0,fill:=[],style := .zero,stroke:=[],img := .zero,dw:=0 }
end Go.Proofs.Pv
namespace Go.Sx
open Go.Proofs Go.Proofs.Pv Go.RowKit Go.Rel Na Nb Go.Sx
section
variable{P:Program}{ops:Array Oper}{Q:Exit->Act->Á->Prop}{w0 w:Á}{a:Act}{os:List Oper}{n:Nat}{l:List (Nat×À)}{bl:List (Nat×List À)}{vs:List eU}
abbrev anj(S:St w0 a w n l bl vs)(k:Nat){f:FuncId}{args:Array À}{b:Nat}{A:List À}(d:Option Nat){R:Ending->Á->Prop}(hk:bl[k]?=some (b,A))(hc:Ä P f args w R)
  (next:∀e w',R e w'->∃v A',e = .R v∧Ext w0 w'∧Ch b w w'∧Bx w' b (List.toArray A')∧∀a',St w0 a' w' n (zo l d v) (bl.set k (b,A')) vs->Ð P ops Q (os.drop 1) a' w')
  (hx:callOf P os l=some (f,args,d):=by kernel_rfl) (hd:uN n d=true:=by rfl):Ð P ops Q os a w:=by
 cases os with
 | nil=>cases hx
 | cons o os =>
  unfold callOf at hx;simp only at hx;split at hx
  .rename_i f' args' hg hav hev;simp only[Ò,Ô]at hx;obtain⟨rfl,rfl,rfl⟩:=hx;simp only[Ĕ]at hav;have hrun:(execOp a.eval o).run P w = .ok (.enter f' args') w:=kH (Std.act a) (gG (bU S.s) o) (p:=[]) I hav.1 (by simpa using hav.2) hev;unfold Ð;rw[Ï (by simp[Region.wanted,hg])];left;unfold Oper.wp;rw[hrun];simp only[Oper.upon];refine hc.mono λe w' hR=>?_;obtain⟨v,A',rfl,hE,hC,hX,hn⟩:=next e w' hR;exact hn _ ((S.ch hC hk hX hE).act (uf S.s hd v))
  cases hx
end
section
variable{P:Program}{B:Exit->Act->Á->Prop}{n:Nat}{w0 w:Á}{a:Act}{bl:List (Nat×List À)}{vs:List eU}{z:Zt}
abbrev dX(S:St w0 a w n z.l bl vs)(k:Nat){f:FuncId}{args:Array À}{b:Nat}{A:List À}{R:Ending->Á->Prop}(hkk:bl[k]?=some (b,A))(hc:Ä P f args w R)
  (next:∀e w',R e w'->∃v A',e = .R v∧Ext w0 w'∧Ch b w w'∧Bx w' b (List.toArray A')∧∀{a'},St w0 a' w' n (wI v (zN P n z)).l (bl.set k (b,A')) vs->Gz P B (wI v (zN P n z)) a' w')
  (hx:callOf P (pz (zN P n z)) (zN P n z).l=some (f,args,lX (zN P n z)):=by kernel_rfl) (ho:(uw (zN P n z)&&uN n (lX (zN P n z)))=true:=by kernel_rfl):Gz P B z a w:=by
 simp only[æ]at ho;refine uy S λS=>zop ho.1 (anj S k _ hkk hc (λe w' hR=>?_) hx ho.2);obtain⟨v,A',h1,h2,h4,h5,h3⟩:=next e w' hR;exact⟨v,A',h1,h2,h4,h5,λa' S'=>Jd (m:=1) (l:=[]) ho.1 (h3 S')⟩
end
end Go.Sx
namespace Go.Proofs.Pv
open Go.RowKit En Na Nb Go.Sx
variable{α β:Type}{K:Nat}
def Got(f:α->List UInt8)(ok:α->Prop)(l:List UInt8)(p:Nat)(bad:Bool)(p':Nat)(bad':Bool)(x:α):Prop:=∀y r,ok y->bad=false->l.drop p=f y++r->x=y∧bad'=false∧l.drop p'=r
def aed(l:List UInt8)(p:Nat)(bad:Bool)(p':Nat)(bad':Bool)(k:Nat):Prop:=∀n r,n<18446744073709551616->n<=r.length->bad=false->l.drop p=fE 10 n++r->k=n∧bad'=false∧l.drop p'=r
variable{p:Nat}{r:List UInt8}{bad:Bool}
abbrev CX{l B:List UInt8}(h:l.drop p=B++r):l.drop (p+B.length)=r:=by rw[<-Ι,h,ayY]
abbrev OY{l B:List UInt8}(h:l.drop p=B++r)(hB:0<B.length):p<l.length:=by
 rcases ĳ p l.length with h1 | h1
 .exact h1
 rw[Ń h1]at h;have:=Ñ List.length h;simp at this; omega
abbrev YV{l:List UInt8}{n:Nat}(h:l.drop p=fE 10 n++r)(hn:n<18446744073709551616):yO l (p:Int)=(n,p+(fE 10 n).length,0):=by
 have hp:=OY h (CY 9 n);rw[Px.WG (ϙ hp),h,Ef n r hn]
abbrev aho{l:List UInt8}:Got iB I64 l p bad (riP l p bad) (Ϡ l p bad) (riV l p bad):=λy r hy hb h=>by
 subst hb;have hu:=YV h (adU hy.1 hy.2);have hv:ν l (p:Int)=(y,p+(iB y).length,0):=by
  unfold ν;rw[hu,aaG]
 obtain⟨-,q1,q2,q3⟩:=ai8 (bad:=false) hv I;rw[q1,q2,q3];exact⟨I,I,CX h⟩
abbrev aaH{l:List UInt8}:aed l p bad (rcP l p bad) (ξ l p bad) (rcV l p bad):=λn r hn hr hb h=>by
 subst hb;have hu:=YV h hn;have hd:=CX h;have hl:n<=l.length-(p+(fE 10 n).length):=by have:=Ñ List.length hd; simp at this; omega
 obtain⟨q1,q2,q3⟩:=ai9 hu ⟨I,I,hl⟩;rw[q1,q2,q3];exact⟨I,I,hd⟩
abbrev SN{l:List UInt8}{n:Nat}{B:List UInt8}(hB:B.length=n)(hn:0<n)(hb:bad=false)(h:l.drop p=B++r):YN l p bad n=B∧I8 l p bad n=false∧l.drop (Β l p bad n)=r:=by
 subst hb hB;have hp:=OY h hn;have hle:p+B.length<=l.length:=by
  have:=Ñ List.length h;simp at this; omega
 have ht:I8 l p false B.length=false:=by unfold I8; simp; omega
 obtain⟨-,-,h2,h3⟩:=I9 ht;rw[h2,h3];exact⟨by rw[h]; simp,ht,CX h⟩
def aaI(f:α->List UInt8)(ok:α->Prop)(l:List UInt8)(p:Nat)(bad:Bool)(m p':Nat)(bad':Bool)(ý:List α):Prop:=∀ys r,ys.length=m->(∀y∈ys,ok y)->bad=false->l.drop p=ys.flatMap f++r->ý=ys∧bad'=false∧l.drop p'=r
abbrev aaI.nil{f:α->List UInt8}{ok:α->Prop}{l:List UInt8}{p:Nat}{bad:Bool}:aaI f ok l p bad 0 p bad []:=λys r hl hk hb h=>by
 obtain rfl:=List.length_eq_zero_iff.1 hl;exact⟨I,hb,h⟩
abbrev aaI.lst{f:α->List UInt8}{ok:α->Prop}{l:List UInt8}{p p1 p2 k:Nat}{bad b1 b2:Bool}{ý:List α}(hc:aed l p bad p1 b1 k)(h:aaI f ok l p1 b1 k p2 b2 ý)(hf:∀x,0<(f x).length):Got (qB f) (λys=>ys.length<18446744073709551616∧∀y∈ys,ok y) l p bad p2 b2 ý:=λys r hok hb e=>by
 unfold qB at e;rw[ĭ]at e;have hlen:ys.length<=(ys.flatMap f).length:=by
  clear e hok;induction ys with
  | nil=>simp
  | cons y ys ih=>have:=hf y; rw[ł,ì,Ĺ]; omega
 obtain⟨rfl,h2,h3⟩:=hc ys.length _ hok.1 (by rw[ì]; omega) hb e;exact h ys r I hok.2 h2 h3
abbrev uz(x:Int)(L:List Int):iM (x::L)=iB x++iM L:=rfl
abbrev aee(x:Int):iM [x]=iB x:=by rw[uz]; exact ņ _
abbrev aef(x:Int):0<(iB x).length:=CY 9 _
def ptB(p:jP):List UInt8:=iM [p.x,p.y]
abbrev aaJ(s:dQ):FZ s=iB s.verb++(ptB s.a++(ptB s.b++ptB s.c)):=by
 unfold FZ ptB; simp only[uz,ĭ]; rfl
abbrev aeg(s:dQ):0<(FZ s).length:=by rw[aaJ,ì]; have:=aef s.verb; omega
end Go.Proofs.Pv
end
abbrev Ď:=@Go.Sx.dX
