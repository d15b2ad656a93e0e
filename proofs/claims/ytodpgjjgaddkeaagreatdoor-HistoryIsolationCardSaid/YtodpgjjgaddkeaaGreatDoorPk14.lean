/- Chapter 7's walks for seats -/
import Derived.Test.YtodpgjjgaddkeaaGreatDoorPk13
import Derived.Lib.AppendZeros
set_option maxHeartbeats 9999999
open Go renaming World->E5,Value->y9,Calls->Nq,wpList->Ã,TypeId->Ð
set_option maxRecDepth 100000
set_option linter.unusedVariables false
set_option linter.unusedSimpArgs false
open Go.Proofs.Tryz Go.RowKit Go.Sx Go.Proofs.Õ Go.Rel Go.Proofs
namespace Go.Proofs.Õ
section
open Na Nb En
variable{α:Type}
abbrev Yr(v:y9)(l:List UInt8)(w:E5)(D:bK w v l)(J:l.length<=140737488355328) :
  Nq prog 61 #[v] w λe w'=>∃v',e = .R v'∧w'.ownsRow w.heap.size 5 1 v' l.length (l.map gY)∧Below w.heap.size w w':=by
 have J:=D.raw (λ_=>I);obtain⟨a,cap,rfl,hm,S⟩:=D;rcases a with _ | ad
 .have hz:l=[]∧cap=0:=by
   rcases S with ⟨h,D⟩ | ⟨b,o,h,_⟩
   .exact⟨h,D I⟩
   cases h
  obtain⟨rfl,rfl⟩:=hz;have D:=Lib.run_eql_slice_nil (P:=prog) w 53 5 none 0 0 0 0 underlying53;clear S J;go_enter func61,ntmps61
  go_wp2
  go_ret
  exact⟨_,I,ϭ _ _ _ _,ø _ _⟩
 have D:=Lib.run_eql_slice_nil (P:=prog) w 53 5 (some ad) l.length cap 0 0 underlying53;have D:=ϊ (base:=w.heap.size) (e:=5) (size:=1) w #[] 0 (Ç _) (Î _) I;have J:=Ep J (.cells #[] 5);have aa:0+l.length<=maxLen:=by
  rcases S with ⟨rfl,_⟩ | ⟨b,o,_,_,h,_⟩
  .simp
  omega
 have ab:(0+l.length)*1<=140737488355328:=Z
 clear S;go_enter func61,ntmps61
 go_wp2_with (at_builtin; refine bV I _ _ _ I AX w.heap.size D I J I aa ab Y ?_; intro v' w' D J)
 go_ret
 simp only[Ī,Ģ]at D;exact⟨_,I,by simpa using D,((ø _ _).alloc (Ç _) _).grown J Y (by simp[Value.ownBlock])⟩
abbrev aau(l:List UInt8):gu.crc [l]=gu.update 0 l:=rfl
abbrev aav(x:UInt32):(x.toNat:Int)/(65536:Int)=((x>>>16).toNat:Int):=by
 rw[aGT]; simp[Nat.shiftRight_eq_div_pow]
abbrev aaw(x:UInt32):(x.toNat:Int)/(16777216:Int)=((x>>>24).toNat:Int):=by
 rw[aGT]; simp[Nat.shiftRight_eq_div_pow]
abbrev acd(x:UInt32):(gu.le4 x).map gY =
  [.u ((x.toNat:Int)%256),.u ((x.toNat:Int)/256%256),.u ((x.toNat:Int)/65536%256),.u ((x.toNat:Int)/16777216%256)]:=by
 simp only[gu.le4,đ,ĵ,gY];rw[aek,aav,aaw,xw,xw,xw,xw]
abbrev ai7(x:UInt32)(w:E5)(e:Ð):dQ (w.alloc (.cells #[.u ((x.toNat:Int)%256),.u ((x.toNat:Int)/256%256),.u ((x.toNat:Int)/65536%256),.u ((x.toNat:Int)/16777216%256)] e)) 1
  (.s (some ⟨w.heap.size,0,none⟩) 4 4) 4 ((gu.le4 x).map gY):=by
 rw[acd];exact PV w _ e 4 1 I (by unfold maxLen; omega) (by intro u D; simp at D; rcases D with rfl | rfl | rfl | rfl<;>rfl)
abbrev yj(v:y9)(l:List UInt8)(w:E5)(J:bK w v l)(D:l.length<=100000000000) :
  Nq prog 32 #[v] w λe w'=>∃v',e = .R v' ∧
   w'.ownsRow w.heap.size 5 1 v' (l++gu.le4 (gu.update 0 l)).length ((l++gu.le4 (gu.update 0 l)).map gY)∧Below w.heap.size w w':=by
 obtain⟨a,cap,rfl⟩:∃a cap,v = .s a l.length cap:=by obtain⟨a,cap,h,_⟩:=J; exact⟨a,cap,h⟩
 have S:=ZY (R:=bK) w (.s a l.length cap) l 53 (J.below (aI _ _));have D:=J.below (aI w (.cells #[.s a l.length cap] 53));have ab:l.length+4<=maxLen:=by unfold maxLen; omega
 have ac:(l.length+4)*1<=140737488355328:=Z
 go_enter func32,ntmps32
 go_wp2_with fail
 refine(crc32 _ _ _ S).mono ?_;rintro e w' ⟨rfl,rfl⟩;rw[aau];go_wp2_with fail
 refine(Yr _ _ _ D Z).mono ?_;rintro e w2 ⟨v2,rfl,S,J⟩;have aa:Below w.heap.size w w2:=(aI _ _).trans (J.mono Y);generalize hx:gu.update 0 l=x;have HX:=FU hx;clear hx;have hr:=ai7 x w2 5;have D:=(bF S (show w.heap.size<=_ by simp)).alloc (.cells #[.u ((x.toNat:Int)%256),.u ((x.toNat:Int)/256%256),.u ((x.toNat:Int)/65536%256),.u ((x.toNat:Int)/16777216%256)] 5);have ae:w.heap.size<=w2.heap.size:=by have:=J.size; simp at this; omega
 have J:w.heap.size<=(w2.alloc (.cells #[.u ((x.toNat:Int)%256),.u ((x.toNat:Int)/256%256),.u ((x.toNat:Int)/65536%256),.u ((x.toNat:Int)/16777216%256)] 5)).heap.size:=by simp; omega
 clear S;go_wp2_with (at_builtin; refine bV I _ _ _ I AX w.heap.size D I hr I ab ac J ?_; intro v' w' D S)
 go_ret
 refine⟨_,I,by rw[HX.out]; simpa[gu.le4]using D,(aa.alloc ae _).grown S J ?_⟩;exact λk hk=>(World.ownsRow.lt ‹_› k hk).1
abbrev Uy{c y:UInt8}{z:Int}(D:z=(y.toNat:Int)):((c.toNat:Int) != z)=(c != y):=by
 subst D;rw[ŉ,bne_iff_ne,bne_iff_ne];constructor
 .intro h e; exact h (by rw[e])
 intro h e; exact h (ϋ.1 Z)
abbrev ak3(x:UInt32):(x.toNat:Int)%(256:Int)=(x.toUInt8.toNat:Int):=xw x
abbrev ak4(x:UInt32):(x.toNat:Int)/(256:Int)%(256:Int)=((x>>>8).toUInt8.toNat:Int):=by rw[aek,xw]
abbrev ak5(x:UInt32):(x.toNat:Int)/(65536:Int)%(256:Int)=((x>>>16).toUInt8.toNat:Int):=by rw[aav,xw]
abbrev ak6(x:UInt32):(x.toNat:Int)/(16777216:Int)%(256:Int)=((x>>>24).toUInt8.toNat:Int):=by rw[aaw,xw]
abbrev four(l:List UInt8)(m:Nat)(h:l.length=m+4):∃c0 c1 c2 c3,l.drop m=[c0,c1,c2,c3]:=by
 have e:(l.drop m).length=4:=by simp; omega
 match l.drop m,e with
 | [c0,c1,c2,c3],_=>exact⟨c0,c1,c2,c3,I⟩
def ace(c0 c1 c2 c3:UInt8)(x:UInt32)(k:Nat):Prop:=[c0,c1,c2,c3].take k=(gu.le4 x).take k
abbrev QE(v:y9)(l:List UInt8)(w:E5)(D:bK w v l)(h:l.length<4) :
  Nq prog 43 #[v] w λe w'=>e = .R (.tuple #[.sn,.i 4])∧w=w':=by
 obtain⟨a,cap,rfl⟩:∃a cap,v = .s a l.length cap:=by obtain⟨a,cap,h,_⟩:=D; exact⟨a,cap,h⟩
 clear D;go_enter func43,ntmps43
 go_wp2
 go_ret2
 exact⟨I,I⟩
abbrev Uz(v:y9)(l:List UInt8)(m:Nat)(w:E5)(hv:bK w v l)(D:l.length=m+4)(J:m<=100000000000) :
  Nq prog 43 #[v] w λe w'=>∃J k,e = .R (.tuple #[J,.i k])∧Below w.heap.size w w' ∧
   (l.drop m=gu.le4 (gu.update 0 (l.take m))->k=0∧bK w' J (l.take m))∧(l.drop m≠gu.le4 (gu.update 0 (l.take m))->k=19∧J = .sn):=by
 obtain⟨a,cap,rfl,J,S⟩:=hv;rcases S with ⟨rfl,_⟩ | ⟨b,o,rfl,hb,ab,hc⟩
 .simp at D
 have S:=aei (n:=m) hb ab J Z hc;have J:=ZY (R:=bK) w (.s (some ⟨b,o,none⟩) m cap) (l.take m) 53 (S.below (aI _ _));have aa:=S.below (aI w (.cells #[.s (some ⟨b,o,none⟩) m cap] 53));have ac:m<=cap:=Z
 have ae:¬m=cap:=Z
 have af:m<cap:=Z
 go_enter func43,ntmps43
 go_wp2_with fail
 refine(crc32 _ _ _ J).mono ?_;rintro e w' ⟨rfl,rfl⟩;rw[aau];go_wp2_with fail
 generalize hx:gu.update 0 (l.take m)=x;have J:=FU hx;clear hx S;obtain⟨c0,c1,c2,c3,hd⟩:=four l m D;have D:∀k (h:k<4),(w.alloc (.cells #[.s (some ⟨b,o,none⟩) m cap] 53)).cell? ⟨b,o+m+k,none⟩=some (gY ([c0,c1,c2,c3][k])):=by
  intro k hk;rw[World.cell?_alloc_past _ _ _ hb,Ο,hc (m+k) Z];simp only[<-hd];rw[List.getElem_drop]
 have S:=FU D;have HD:=FU hd;clear D hc hd;go_loop [22] (λi=>∃k:Nat,k<=4∧i = .i k∧ace c0 c1 c2 c3 x k) (λi=>4-(intOf i).toNat)
 case atStart=>exact⟨0,Z,I,I⟩
 case round =>
  obtain⟨k,hk,rfl,D⟩:=hrel;have HE:=FU D;clear D;have D:k=0∨k=1∨k=2∨k=3∨k=4:=Z
  rcases D with rfl | rfl | rfl | rfl | rfl
  .have hck:=S.out 0 Z;simp only[ż,Ϲ]at hck;go_wp2
   .have h := ‹((c0.toNat:Int) != _)=true›;rw[Uy (ak3 x)]at h;go_ret2
    exact⟨_,_,I,aI _ _,λe=>by rw[HD.out,J.out]at e; simp[gu.le4]at e; simp[e]at h,λ_=>⟨I,I⟩⟩
   have h := ‹((c0.toNat:Int) != _)=false›;rw[Uy (ak3 x)]at h;go_round
   case rel=>exact⟨1,Z,I,by simp[ace,gu.le4]at h |-; exact h⟩
   case measure=>simp[intOf]
  .have hck:=S.out 1 Z;simp only[Ϲ,List.getElem_cons_succ]at hck;go_wp2
   .have h := ‹((c1.toNat:Int) != _)=true›;rw[Uy (ak4 x)]at h;go_ret2
    exact⟨_,_,I,aI _ _,λe=>by rw[HD.out,J.out]at e; simp[gu.le4]at e; simp[e]at h,λ_=>⟨I,I⟩⟩
   have h := ‹((c1.toNat:Int) != _)=false›;rw[Uy (ak4 x)]at h;go_round
   case rel=>exact⟨2,Z,I,by have:=HE.out; simp[ace,gu.le4]at h this |-; exact⟨this,h⟩⟩
   case measure=>simp[intOf]
  .have hck:=S.out 2 Z;simp only[Ϲ,List.getElem_cons_succ]at hck;go_wp2
   .have h := ‹((c2.toNat:Int) != _)=true›;rw[Uy (ak5 x)]at h;go_ret2
    exact⟨_,_,I,aI _ _,λe=>by rw[HD.out,J.out]at e; simp[gu.le4]at e; simp[e]at h,λ_=>⟨I,I⟩⟩
   have h := ‹((c2.toNat:Int) != _)=false›;rw[Uy (ak5 x)]at h;go_round
   case rel=>exact⟨3,Z,I,by have:=HE.out; simp[ace,gu.le4]at h this |-; exact⟨this.1,this.2,h⟩⟩
   case measure=>simp[intOf]
  .have hck:=S.out 3 Z;simp only[Ϲ,List.getElem_cons_succ]at hck;go_wp2
   .have h := ‹((c3.toNat:Int) != _)=true›;rw[Uy (ak6 x)]at h;go_ret2
    exact⟨_,_,I,aI _ _,λe=>by rw[HD.out,J.out]at e; simp[gu.le4]at e; simp[e]at h,λ_=>⟨I,I⟩⟩
   have h := ‹((c3.toNat:Int) != _)=false›;rw[Uy (ak6 x)]at h;go_round
   case rel=>exact⟨4,Z,I,by have:=HE.out; simp[ace,gu.le4]at h this |-; exact⟨this.1,this.2.1,this.F,h⟩⟩
   case measure=>simp[intOf]
  have e:l.drop m=gu.le4 (gu.update 0 (l.take m)):=by
   rw[HD.out,J.out]; have:=HE.out; simpa[ace,gu.le4]using this
  have HF:=FU e;clear e;go_wp2_with fail
  refine(Yr _ _ _ aa (by simp; omega)).mono ?_;rintro e w2 ⟨v2,rfl,D,S⟩;have J:=bC D;clear D;go_wp2_with fail
  go_ret2
  exact⟨_,_,I,(aI _ _).trans (S.mono Y),λ_=>⟨I,J⟩,λh=>(h HF.out).elim⟩
end
section
open Na Nb En
variable{α:Type}{K:Nat}
def dY(L:List Int):List UInt8:=L.flatMap λx=>En.dX 10 (En.zig x)
variable{p er k b cap:Nat}{bad:Bool}{x:Int}{v:y9}
abbrev acf{L:List Int}(hk:k<L.length)(D:L[k]=x):dY (L.take (k+1))=dY (L.take k)++En.dX 10 (En.zig x):=by
 unfold dY;rw[ĸ hk,D,ŀ]; simp
abbrev iM(L:List Int):(dY L).length<=10*L.length:=by
 induction L with
 | nil=>simp[dY]
 | cons x L ih=>unfold dY at *; rw[Ķ,Å,Ē]; have:=En.iL 10 (En.zig x); omega
abbrev afx (w:E5)(v:y9)(L:List Int):Prop:=aG 1 (λx:Int=>[.i x]) w v L
abbrev jc{w:E5}{L:List Int}(h:afx w v L)(J:∀x∈L,I64 x)(hn:L.length<=1000000) :
  Nq prog 53 #[v] w λe w'=>∃D,e = .R D∧OwnB w.heap.size w' D (dY L)∧Ext w w':=by
 obtain⟨a,cap,rfl⟩:=h.shape;have D:L.length<=9223372036854775807:=h.len;refine Ä func53 ntmps53 λS=>?_;have R:=Č S;have R:=Ut R;refine ĉ S (ι:=Nat×y9) (λp D w'=>p.1<=L.length∧(True)∧Sx.Rw w w' [] [⟨5,1,p.2,(dY (L.take p.1)).length,(dY (L.take p.1)).map gY⟩]∧Sx.St w D w' 18 [(0,.s a L.length cap),(2,.sn),(3,p.2),(6,.s a L.length cap),(7,.i L.length),(8,.i p.1)] [] []) (λp=>L.length-p.1) (0,(.sn)) (λS=>⟨Î _,G,R,S.sn⟩) ?_;rintro⟨k,v⟩ ac u fQ eu hI;try dsimp only at hI
 obtain⟨hk,D,R,S⟩:=hI;refine Ċ S λS=>À S (decide ((k:Int)<(L.length:Int))) (λmO S=>?_) λmO S=>?_
 .have uN:k<L.length:=by have:=Ý mO; omega
  obtain⟨b10,ag,rfl,D,BO,wZ,QF⟩:=ý h (λ_=>I) (k) uN;have S:=S.view0 wZ QF;refine O1 S 5 [] [.idx k L.length,.M 0 0] (hk:=⟨uN,G⟩) λS=>č S (Az D _ (J D (by rw[<-BO]; exact ò _)).1 (J D (by rw[<-BO]; exact ò _)).2) λab u J zU S=>?_;have aa:=iM (L.take k);rw[Ĳ]at aa;have af:(En.dX 10 (En.zig D)).length<=10:=En.iL 10 _;obtain⟨R,ah⟩:=R.aZ S (à zU);refine è S λS=>Ń S R 0 15 I AX (jW (J)) (by show(dY (L.take k)).length+(En.dX 10 (En.zig D)).length<=9223372036854775807; omega) (by show((dY (L.take k)).length+(En.dX 10 (En.zig D)).length)*1<=140737488355328; omega) λac u J ae R S=>ÿ S λS=>O1 S 3 [] [kS 16 k] (hk:=⟨ù Z,G⟩) λS=>ċ S fQ λS=>?_;exact eu _ _ ((k+1),J) ⟨Z,G,R.as (show [(⟨5,1,J,((dY (L.take k)).length+(En.dX 10 (En.zig D)).length),((dY (L.take k)).map gY++(En.dX 10 (En.zig D)).map gY)⟩:Sx.Row)]=[⟨5,1,J,(dY (L.take (k+1))).length,(dY (L.take (k+1))).map gY⟩] by rw[acf uN BO]; simp),S.sn⟩ (by show _-_<_-_; omega)
 refine Xe S v λS=>?_;exact⟨_,I,by have:=R.own _ Ö; rw[Ď (by have:=é mO; omega)]at this; exact this,S.E⟩
abbrev vU{w:E5}{p:bI} :
  Nq prog 54 #[.agg p.cells.toArray] w λe w'=>∃v,e = .R v∧OwnB w.heap.size w' v (Px.pb p)∧Ext w w':=by
 skip;refine Ä func54 ntmps54 λS=>Ú S p.cells λu b2 J D S=>?_;have R:=Č S;refine O1 S 9 [] [.M 0 0,.M 0 1,.M 0 2,.M 0 3] λS=>è S λS=>Υ S R 11 4 5 1 p.cells λJ u D E7 X8 R S=>ÿ S λS=>Xe S D λS=>?_;exact⟨_,I,R.own _ Ö,S.E⟩
abbrev Yt{l:List UInt8}{p:Nat}(D:p<=l.length):(y8 l (p:Int)).2.1<=l.length:=by
 cases h:y8 l (p:Int)with
 | mk k r =>
  obtain⟨x,er⟩:=r;by_cases he:er=0
  .subst he; obtain⟨c,-,-,J,-⟩:=Px.ok1 D h; exact J
  rw[Px.Yp D]at h;split at h
  .simp only[Ê]at h; omega
  simp only[Ê]at h; show x<=_; omega
def Χ(l:List UInt8)(p:Nat)(bad:Bool):Bool:=bad||(Η l (p:Int)).2.2 != 0
def Ϥ(l:List UInt8)(p:Nat)(bad:Bool):Nat:=if Χ l p bad=true then p else (Η l (p:Int)).2.1
def ϰ(l:List UInt8)(p:Nat)(bad:Bool):Int:=if Χ l p bad=true then 0 else (Η l (p:Int)).1
abbrev amO{l:List UInt8}(D:p<=l.length):Ϥ l p bad<=l.length:=by
 unfold Ϥ; split
 .exact D
 exact Yt D
abbrev afy{l:List UInt8}{p:Nat}:I64 (Η l (p:Int)).1:=by
 have:=afz (n:=(y8 l (p:Int)).1) (Yh l p);exact this
abbrev amP{l:List UInt8}{nx:Nat}(D:Η l (p:Int)=(x,nx,er))(h:(bad || !decide ((er:Int)=0))=true):Χ l p bad=true∧Ϥ l p bad=p∧ϰ l p bad=0:=by
 have:Χ l p bad=true:=by
  unfold Χ; rw[D];cases bad
  .simp at h |-; omega
  rfl
 unfold Ϥ ϰ; rw[Á this,Á this]; exact⟨this,I,I⟩
abbrev ak7{l:List UInt8}{nx:Nat}(D:Η l (p:Int)=(x,nx,er))(h:(bad || !decide ((er:Int)=0))=false):bad=false∧Χ l p bad=false∧Ϥ l p bad=nx∧ϰ l p bad=x:=by
 have:bad=false∧Χ l p bad=false:=by
  unfold Χ; rw[D];cases bad
  .simp at h |-; omega
  simp at h
 unfold Ϥ ϰ; rw[this.2,D]; exact⟨this.1,I,by simp,by simp⟩
def Θ(l:List UInt8)(p:Nat)(bad:Bool):Bool:=bad||((y8 l (p:Int)).2.2 != 0||decide (l.length-(y8 l (p:Int)).2.1<(y8 l (p:Int)).1))
def ϥ(l:List UInt8)(p:Nat)(bad:Bool):Nat:=if Θ l p bad=true then p else (y8 l (p:Int)).2.1
def Ϧ(l:List UInt8)(p:Nat)(bad:Bool):Nat:=if Θ l p bad=true then 0 else (y8 l (p:Int)).1
abbrev amQ{l:List UInt8}(D:p<=l.length):ϥ l p bad<=l.length:=by
 unfold ϥ; split
 .exact D
 exact Yt D
abbrev amR{l:List UInt8}:Ϧ l p bad<=l.length:=by
 unfold Ϧ; split
 .omega
 rename_i h; unfold Θ at h; simp at h; omega
abbrev amS{l:List UInt8}{nx:Nat}(D:y8 l (p:Int)=(k,nx,er))(h:¬(bad=false∧er=0∧k<=l.length-nx)):Θ l p bad=true∧ϥ l p bad=p∧Ϧ l p bad=0:=by
 have:Θ l p bad=true:=by
  unfold Θ; rw[D];cases bad
  .simp at h |-; omega
  rfl
 unfold ϥ Ϧ; rw[Á this,Á this]; exact⟨this,I,I⟩
abbrev ak8{l:List UInt8}{nx:Nat}(D:y8 l (p:Int)=(k,nx,er))(h:bad=false∧er=0∧k<=l.length-nx):Θ l p bad=false∧ϥ l p bad=nx∧Ϧ l p bad=k:=by
 have:Θ l p bad=false:=by
  unfold Θ; rw[D];obtain⟨rfl,rfl,h⟩:=h;simp; omega
 unfold ϥ Ϧ; rw[this,D]; exact⟨I,by simp,by simp⟩
abbrev lS(v u:y9)(l m:List UInt8)(w:E5)(D:bK w v l)(J:bK w u m) :
  Nq prog 50 #[v,u] w λe w'=>e = .R (.b (l==m))∧w=w':=by
 have s1:=oC (P:=prog) (src:=53) (e:=5) (dst:=9) underlying53 underlying5 underlying9 D;have s2:=oC (P:=prog) (src:=53) (e:=5) (dst:=9) underlying53 underlying5 underlying9 J;clear D J;go_enter func50,ntmps50
 go_wp2_with fail
 go_ret
 exact⟨I,I⟩
abbrev acg{w0 w:E5}{a:Option Addr}{pk:Bool}{l:List UInt8}(D:Ext w0 w)(J:Bx w b #[.s a l.length cap,.i p,.b bad,.b pk])(hb:w0.heap.size<=b)(h:jI w0 (.s a l.length cap) l)(hp:p<=l.length) :
  Nq prog 77 #[.q b 0] w λe w'=>e = .R (.i (ϰ l p bad))∧Ext w0 w'∧Ch b w w'∧Bx w' b #[.s a l.length cap,.i (Ϥ l p bad:Nat),.b (Χ l p bad),.b pk]:=by
 skip;refine BP func77 ntmps77 D J hb λac S=>YJ λ_ D=>Rf S 1 [] [(2,.i 0)] λS=>Rh<|D _ _<|Ô λ_ Og=>?_;obtain⟨J,nx,er,hu⟩:∃J nx er,Η l (p:Int)=(J,nx,er):=⟨_,_,_,I⟩;have D:I64 J:=by have:=@afy l p; rw[hu]at this; exact this
 refine š S 15 [.M 0 0,.M 0 1] [(_,_,true,.tuple #[.i J,.i nx,.i er])] [(3,.i J),(4,.i nx),(18,.i er)] ⟨λu hC g=>(by have D:=Yj (.s a l.length cap) l (p:Int) _ (dP (aG.below h (Ip S.E hC))); rw[hu]at D; exact D),G⟩ λac u E3 S=>Rf S 1 [] [(5,.i er)] λS=>Rh<|Og _ _<|Ô λ_ Ζ=>YJ λ_ D=>Rf S 8 [.M 0 2] [(26,.b (bad||(((er:Int)) != 0)))] λS=>Rh (D _ _ ?_);refine Ā S (λD=>?_) λD=>?_
 .refine YJ λ_ UA=>Rf S 3 [] [(29,.q b 2)] λS=>Ĺ S 0 (off:=2) (v := .b true) I λu C8 S=>?_;have ab:=(aN ((Ch.trans (Ch.refl b w) (Ch.aY E3))) C8 (by first | exact .inl I | exact .inr Z));refine Rh<|UA _ _<|YJ λ_ xQ=>Rf S 1 [] [(2,.i 0)] λS=>Rh<|xQ _ _<|ğ ?_;have hq:(bad || !decide ((er:Int)=0))=true:=by cases bad<;>simp at D |- <;> omega
  obtain⟨q1,q2,q3⟩:=amP hu hq;refine vV S results77 ?_;exact⟨by rw[q3],S.E,ab,by rw[q1,q2]; have:=S.bx 0; exact this⟩
 refine ú<|Ζ _ _<|YJ λ_ Jz=>Rf S 4 [] [(31,.i nx),(33,.q b 1)] λS=>Ĺ S 0 (off:=1) (v := .i nx) I λu aa S=>?_;have XB:=(aN ((Ch.trans (Ch.refl b w) (Ch.aY E3))) aa (by first | exact .inl I | exact .inr Z));refine Rh<|Jz _ _<|YJ λ_ uH=>Rf S 2 [] [(2,.i J)] λS=>Rh<|uH _ _<|ğ ?_;have hq:(bad || !decide ((er:Int)=0))=false:=by cases bad<;>simp at D |- <;> omega
 obtain⟨q0,q1,q2,q3⟩:=ak7 hu hq;refine vV S results77 ?_;exact⟨by rw[q3],S.E,XB,by rw[q1,q2]; have:=S.bx 0; rw[q0]at this; exact this⟩
abbrev UC{w0 w:E5}{a:Option Addr}{pk:Bool}{l:List UInt8}(J:Ext w0 w)(hx:Bx w b #[.s a l.length cap,.i p,.b bad,.b pk])(hb:w0.heap.size<=b)(h:jI w0 (.s a l.length cap) l)(hp:p<=l.length) :
  Nq prog 80 #[.q b 0] w λe w'=>e = .R (.i (Ϧ l p bad:Nat))∧Ext w0 w'∧Ch b w w'∧Bx w' b #[.s a l.length cap,.i (ϥ l p bad:Nat),.b (Θ l p bad),.b pk]:=by
 have D:l.length<=9223372036854775807:=h.len;refine BP func80 ntmps80 J hx hb λac S=>YJ λ_ D=>Rf S 1 [] [(2,.i 0)] λS=>Rh<|D _ _<|Ô λ_ Og=>?_;obtain⟨D,nx,er,hu⟩:∃D nx er,y8 l (p:Int)=(D,nx,er):=⟨_,_,_,I⟩;have J:nx<=l.length:=by have:=@Yt l p hp; rw[hu]at this; exact this
 have J:D<18446744073709551616:=by have:=Yh l (p:Int); rw[hu]at this; exact this
 refine š S 15 [.M 0 0,.M 0 1] [(_,_,true,.tuple #[.int .u64 (D:Int),.i nx,.i er])] [(3,.int .u64 (D:Int)),(4,.i nx),(18,.i er)] ⟨λu hC g=>(by have J:=yh (.s a l.length cap) l (p:Int) _ (dP (aG.below h (Ip S.E hC))); rw[hu]at J; exact J),G⟩ λac u E3 S=>Rf S 1 [] [(5,.i er)] λS=>Rh<|Og _ _<|Ô λ_ Ζ=>YJ λ_ J=>Rf S 20 [.M 0 2,.M 0 0,.re 35 (.i (iW ((l.length:Int)-(nx:Int)))) (.i (l.length-nx:Nat)),.re 36 (.int .u64 (IntKind.u64.wrap ((l.length-nx:Nat):Int))) (.int .u64 ((l.length-nx:Nat):Int))] [(38,.b ((bad||(((er:Int)) != 0))||(decide (((l.length-nx:Nat):Int)<(D:Int)))))] (hk:=⟨(qp Z Z),(wrap_u64 Z),G⟩) λS=>Rh (J _ _ ?_);refine Ā S (λJ=>?_) λJ=>?_
 .refine YJ λ_ UA=>Rf S 3 [] [(41,.q b 2)] λS=>Ĺ S 0 (off:=2) (v := .b true) I λu C8 S=>?_;have aa:=(aN ((Ch.trans (Ch.refl b w) (Ch.aY E3))) C8 (by first | exact .inl I | exact .inr Z));refine Rh<|UA _ _<|YJ λ_ xQ=>Rf S 1 [] [(2,.i 0)] λS=>Rh<|xQ _ _<|ğ ?_;have hq:¬(bad=false∧er=0∧D<=l.length-nx):=by rintro⟨h1,h2,h3⟩; rw[h1]at J; simp at J<;>omega
  obtain⟨q1,q2,q3⟩:=amS hu hq;refine vV S results80 ?_;exact⟨by rw[q3]<;>rfl,S.E,aa,by rw[q1,q2]; have:=S.bx 0; exact this⟩
 refine ú<|Ζ _ _<|YJ λ_ Jz=>?_;have hq:bad=false∧er=0∧D<=l.length-nx:=by cases bad<;>simp at J |- <;> omega
 refine Rf S 4 [] [(43,.i nx),(45,.q b 1)] λS=>Ĺ S 0 (off:=1) (v := .i nx) I λu J S=>?_;have XB:=(aN ((Ch.trans (Ch.refl b w) (Ch.aY E3))) J (by first | exact .inl I | exact .inr Z));refine Rh<|Jz _ _<|YJ λ_ J=>Rf S 3 [.re 47 (.i (iW (D:Int))) (.i D)] [(2,.i D)] (hk:=⟨(qp I Z),G⟩) λS=>Rh<|J _ _<|ğ ?_;obtain⟨q1,q2,q3⟩:=ak8 hu hq;refine vV S results80 ?_;exact⟨by rw[q3]<;>rfl,S.E,XB,by rw[q1,q2]; have:=S.bx 0; rw[hq.1]at this; exact this⟩
abbrev MZ{w:E5}{D:y9}{l m:List UInt8}(h:jI w v l)(h':jI w D m) :
  Nq prog 114 #[v,D] w (Ï w (.b (decide (m.length<=l.length)&&(l.take m.length==m)))):=by
 obtain⟨a,cap,rfl⟩:=h.shape;obtain⟨d,cap',rfl⟩:=h'.shape;refine Ņ func114 ntmps114 λJ S=>YJ λ_ fQ=>Rf S 1 [] [(4,.z)] λS=>Rh<|fQ _ _<|YJ λ_ D=>?_;by_cases hq:m.length<=l.length
 .have hcap:=kP h;refine Rf S 11 [.re 9 (.b ((m.length:Int)<=(l.length:Int))) (.b true),.slc 0 m.length cap cap] [(10,.b true),(14,.s (um a 0 cap 1) m.length cap),(15,.s d m.length cap')] (hk:=⟨(Ñ Value.b (ņ Z)),Z,G⟩) λS=>afA S (some 16) (Ġ (lS _ _ (l.take m.length) m _ (dP (aG.below (rD h (l:=0) (h':=m.length) (m:=cap) Z hq Z Z) S.E)) (dP (aG.below h' S.E)))) ?_;rintro e u ⟨rfl,E3⟩;refine⟨_,I,E3,λJ S=>?_⟩;refine Rf S 2 [] [(4,.b (l.take m.length==m))] λS=>Rh<|D _ _<|Qm S results114 ?_;exact⟨Ñ (λb=>Ending.returned (Value.b b)) (by rw[ņ hq,Ł]),S.E⟩
 refine Rf S 14 [.re 9 (.b ((m.length:Int)<=(l.length:Int))) (.z),.dead 11 (.z),.dead 12 (.z),.dead 13 (.z),.dead 14 (.z),.dead 15 (.z),.dead 16 (.z)] [(4,.z)] (hk:=⟨(Ñ Value.b (Ŝ Z)),G⟩) λS=>Rh<|D _ _<|Qm S results114 ?_;exact⟨Ñ (λb=>Ending.returned (Value.b b)) (by rw[Ŝ hq,ŕ]),S.E⟩
end
end Go.Proofs.Õ
section
namespace Go.Proofs.Õ
open En Na Nb
variable{α:Type}
abbrev QG(v:y9)(l:List UInt8)(w:E5)(hv:bK w v l) :
    Nq prog 260 #[v,.u 0] w λe w'=>∃D,e = .R D∧bK w D (au (Nb.val l))∧w=w':=by
 have D:=FU hv;obtain⟨a,cap,rfl,J,S⟩:=hv;have hl:=rZ J S;have ac:l.length<=cap:=by
  rcases S with ⟨rfl,_⟩ | ⟨_,_,_,_,h,_⟩
  .simp
  exact h
 have HA:=FU S;clear S;unfold maxLen at J;go_enter func260,ntmps260
 go_wp2
 go_loop [0] (λi=>∃k:Nat,i = .s a k cap∧k<=l.length∧Hid (Nb.val (l.take k)=Nb.val l)) (λi=>match i with | .s _ k _=>k | _=>0)
 case atStart=>exact⟨l.length,I,Ç _,by show _=_; rw[ħ]⟩
 case round =>
  obtain⟨k,rfl,hk,HV⟩:=hrel;by_cases h0:k=0
  .subst h0;go_wp2
   go_ret
   have S:au (Nb.val l)=l.take 0:=Nb.lW Z HV.out (.inl I);have hr:=Hf (cap':=cap) (n:=0) D.out Z Z J (λh=>by
    rcases HA.out with ⟨_,h'⟩ | ⟨_,_,h',_⟩
    .exact h' h
    rw[h]at h'; cases h')
   exact⟨_,I,by rw[S]; exact hr,I⟩
  obtain⟨j,rfl⟩:∃j,k=j+1:=⟨k-1,Z⟩;rcases HA.out with ⟨rfl,_⟩ | ⟨b,o,rfl,hb,af,hc⟩
  .simp at hk
  have ae:=hc j Z;have aa:j<l.length:=Z
  clear hc;by_cases hz:l[j]=0
  .have HE:Hid (Nb.val (l.take j)=Nb.val l):=by show _=_; rw[<-HV.out,Nb.dD l j aa,hz]; simp
   have ab:((l[j].toNat:Int)==0)=true:=by rw[hz]; rfl
   have HZ:=FU hz;clear hz;go_wp2
   go_round
   case rel=>exact⟨j,I,Z,HE⟩
   case measure=>simp
  have ab:((l[j].toNat:Int)==0)=false:=by
   rw[õ]; intro e; exact hz (ϋ.1 (by simp; omega))
  have HZ:=FU hz;clear hz;go_wp2
  go_ret
  have S:au (Nb.val l)=l.take (j+1):=Nb.lW Z HV.out (.inr ⟨Z,HZ.out⟩);have hr:=Hf (cap':=cap) (n:=j+1) D.out Z Z J (λh=>by cases h);exact⟨_,I,by rw[S]; exact hr,I⟩
abbrev afB(v:y9)(l:List UInt8)(w:E5)(D:bK w v l) :
    Nq prog 226 #[v,.string ⟨#[0]⟩] w λe w'=>∃J,e = .R J∧bK w J (au (Nb.val l))∧w=w':=by
 have S:=FU D;obtain⟨a,cap,rfl⟩:=D.shape;have HT:=FU (QG _ _ _ D);have hl:=D.len;unfold maxLen at hl;clear D;by_cases h0:l.length=0
 .have e:l=[]:=Ś h0;subst e;have D:=S;go_enter func226,ntmps226
  go_wp2_with fail
  go_ret
  exact⟨_,I,S.out,I⟩
 have D:((l.length:Int)==0)=false:=by rw[õ]; omega
 go_enter func226,ntmps226
 go_wp2_with fail
 refine HT.out.mono ?_;rintro e w' ⟨J,rfl,D,rfl⟩;have J:=FU D;clear D HT;go_wp2_with fail
 go_ret
 exact⟨_,I,J.out,I⟩
abbrev afC(n:Nat)(w:E5)(hn:n<=100000000000) :
    Nq prog 225 #[.sn,.i n] w λe w'=>∃D,e = .R D∧w'.ownsRow w.heap.size 5 1 D 0 ([].map gY)∧Ext w w':=by
 rcases ė n with rfl | h0
 .go_enter func225,ntmps225
  go_wp2_with fail
  go_ret
  exact⟨_,I,ϭ _ _ _ _,ø _ _⟩
 obtain⟨i,S,hz,J,D⟩:=AX.info;have J:=Lib.run_append_nil_zeros (P:=prog) w 53 3 53 5 i (.u 0) .i64 .i64 underlying53 underlying3 S hz n h0 Z Z (by rw[D]; omega);have D:=grownCap_ge w n 0 5;have aa:=grownCap_le_maxLen w n 0 5 (by unfold maxLen; omega);have S:∀k,(Builtin.zeroCells (Value.u 0).cells k).size=k:=λk=>by
  have D:(Value.u 0).cells.size=1:=I;simp[Builtin.zeroCells,D]
 have D:=World.ownsRow_made (base:=w.heap.size) (e:=5) (size:=1) w.drew (Builtin.zeroCells (Value.u 0).cells n++Builtin.zeroCells (Value.u 0).cells (grownCap w n 0 5-n)) (grownCap w n 0 5) (Ç _) aa (by rw[Array.size_append,S,S]; omega);have S:=FU D;clear D;go_enter func225,ntmps225
 go_wp2_with (at_builtin; refine Lib.wpList_append_run _ I _ _ _ _ I _ _ I I _ _ J ?_)
 go_ret
 exact⟨_,I,S.out,(below_drewN (ø _ _) 1).alloc (Ç _) _⟩
def cat(D:List (List UInt8))(k:Nat):List UInt8:=(D.take k).flatten
abbrev DK(D:List (List UInt8))(k:Nat)(hk:k<D.length):cat D (k+1)=cat D k++D[k]:=by
 unfold cat; rw[take_snoc D k hk,List.flatten_append]; simp
abbrev ai8(D:List (List UInt8)):cat D D.length=D.flatten:=by unfold cat; rw[ħ]
abbrev BQ(D:List (List UInt8))(k:Nat):(cat D k).length<=D.flatten.length:=by
 unfold cat;conv=>rhs; rw[<-ň k D,List.flatten_append,Å]
 omega
abbrev Yu(v:y9)(D:List (List UInt8))(w:E5)(hv:yS w v D)(J:D.flatten.length<=1000000000) :
    Nq prog 176 #[v] w λe w'=>∃v',e = .R v'∧w'.ownsRow w.heap.size 5 1 v' D.flatten.length (D.flatten.map gY)∧Ext w w':=by
 obtain⟨a,cap,rfl,S,J⟩:=hv;have hl:=aeh S J;have HA:=FU J;clear J;go_enter func176,ntmps176
 go_wp2_with fail
 go_loop [3,11] (λs i=>∃k:Nat,i = .i k∧k<=D.length∧s = .i ((cat D k).length:Nat)) (λ_ i=>D.length-(intOf i).toNat)
 case atStart=>exact⟨0,I,Î _,I⟩
 case round =>
  obtain⟨k,rfl,hk,rfl⟩:=hrel;have J:=BQ D k;by_cases hlt:k<D.length
  .rcases HA.out with ⟨rfl,_⟩ | ⟨b,o,rfl,hb,hlc,hc⟩
   .simp at hlt
   obtain⟨x,hx,ab⟩:=hc k hlt;obtain⟨S,cx,rfl⟩:=ab.shape;have hf:((cat D (k+1)).length:Int)=((cat D k).length:Int)+((D[k]).length:Int):=by rw[DK D k hlt]; simp
   have S:=BQ D (k+1);have hs:((cat D k).length:Int)+((D[k]).length:Int)<=1000000000:=Z
   have HF:=FU hf;clear hc ab hf;go_wp2_with fail
   go_round
   case rel =>
    exact⟨k+1,by go_num,Z,G9 HF.out.symm⟩
   case measure=>simp[intOf]; omega
  obtain rfl:k=D.length:=by omega
  have hG:=afC (cat D D.length).length w Z;have HG:=FU hG;clear hG J;go_wp2_with fail
  refine HG.out.mono ?_;rintro e w1 ⟨g,rfl,J,hb⟩;have HO:=FU J;have HB:=FU hb;clear J hb HG;go_wp2_with fail
  go_loopw [6,27] (λg i wr=>∃k:Nat,i = .i k∧k<=D.length∧wr.ownsRow w.heap.size 5 1 g (cat D k).length ((cat D k).map gY)∧Ext w wr) (λ_ i _=>D.length-(intOf i).toNat)
  case atStart=>exact⟨0,I,Î _,HO.out,HB.out⟩
  case round =>
   obtain⟨k,rfl,hk,aa,J⟩:=hrel;by_cases hlt2:k<D.length
   .rcases HA.out with ⟨h,_⟩ | ⟨b,o,rfl,hb,hlc,hc⟩
    .rw[h]at hlt2; simp at hlt2
    obtain⟨x,hx,ab⟩:=hc k hlt2;have ac:=ab.below J;have ai:wr.cell? ⟨b,o+k,none⟩=some x:=by rw[J.cell (p:=⟨b,o+k,none⟩) hb]; exact hx
    have ae:=ac.raw (λ_=>I);have hf:=DK D k hlt2;have S:=BQ D (k+1);have ag:(cat D k).length+(D[k]).length<=maxLen:=by
     rw[hf,Å]at S; unfold maxLen; omega
    have ah:((cat D k).length+(D[k]).length)*1<=140737488355328:=by
     rw[hf,Å]at S; omega
    have af:=J.size;have HF:=FU hf;clear hc ab hx hf ac S;go_wp2_with (at_builtin; refine bV I _ _ _ I AX w.heap.size aa I ae I ag ah af ?_; intro v' w' S hg)
    go_roundw
    case rel =>
     refine⟨k+1,by go_num,Z,?_,J.grown hg af (λk hk=>(World.ownsRow.lt aa k hk).1)⟩;rw[HF.out,Å,Ħ]; exact S
    case measure=>simp[intOf]; omega
   obtain rfl:k=D.length:=by omega
   rw[ai8]at aa;go_wp2_with fail
   go_ret
   exact⟨_,I,aa,J⟩
attribute [local go_sem] Go.Rel.Does Go.Rel.Upon Go.Rel.kept Go.Rel.valOf
abbrev oL(v:y9)(l:List UInt8)(w:E5)(J:bK w v l)(D:l.length<=1000000000) :
    Nq prog 29 #[v] w λe w'=>∃D,e = .R D∧w'.ownsRow w.heap.size 5 1 D (gJ l).length ((gJ l).map gY)∧Ext w w':=by
 have HP:=FU (gq l.length w Z);have S:=FU J;obtain⟨a,cap,rfl⟩:=J.shape;clear J;go_enter func29,ntmps29
 go_wp2_with fail
 refine HP.out.mono ?_;rintro e w1 ⟨D,rfl,ho,hb⟩;have D:=(S.out.below hb).raw (λ_=>I);have J:=iL 10 l.length;have S:(dX 10 l.length).length+l.length<=maxLen:=by unfold maxLen; omega
 have aa:((dX 10 l.length).length+l.length)*1<=140737488355328:=Z
 have J:=hb.size;clear HP;go_wp2_with (at_builtin; refine bV I _ _ _ I AX w.heap.size ho I D I S aa J ?_; intro v2 w2 D S)
 go_ret
 refine⟨_,I,?_,hb.grown S J (λk hk=>(World.ownsRow.lt ho k hk).1)⟩;unfold gJ;rw[Å,Ħ];exact D
abbrev ai9(d:UInt32):(Nb.le4 d).map gY=[.u ((d.toNat:Int)%256),.u ((d.toNat:Int)/256%256),.u ((d.toNat:Int)/65536%256),.u ((d.toNat:Int)/16777216%256)]:=by
 simp[Nb.le4,gY,UInt32.toNat_shiftRight,Nat.shiftRight_eq_div_pow]
abbrev QH(n:Nat):(au n).length<=4*(RI n).length:=by
 apply Nb.bJ;have h:=Na.dS (RI n);rw[RH]at h;have e:Nb.B^(4*(RI n).length)=NZ^(RI n).length:=by
  rw[Nat.pow_mul]; rfl
 rw[e]; exact h
abbrev Ot(neg:Bool)(s:y9)(l:List UInt32)(w:E5)(J:aH w s l)(D:l.length<=100000000) :
    Nq prog 177 #[.agg #[.b neg,s]] w λe w'=>∃v',e = .R v'∧bK w' v' (au (TR l))∧Ext w w':=by
 have D:=aI w (.cells #[.b neg,s] 24);have S:=FU (J.below D);obtain⟨a,cap,rfl⟩:=J.shape;have ah:=FU D;clear J D;go_enter func177,ntmps177
 go_wp2_with fail
 go_loopw [3,9] (λv i wr=>∃k:Nat,i = .i k∧k<=l.length∧wr.ownsRow (w.heap.size+1) 5 1 v (Nb.bytes (l.take k)).length ((Nb.bytes (l.take k)).map gY)∧Ext (w.alloc (.cells #[.b neg,.s a l.length cap] 24)) wr) (λ_ i _=>l.length-(intOf i).toNat)
 case atStart=>exact⟨0,I,Î _,ϭ _ _ _ _,ø _ _⟩
 case round =>
  obtain⟨k,rfl,hk,D,J⟩:=hrel;have ae:=abA (l.take k);have af:(l.take k).length=k:=by simp; omega
  have aa:=J.size;simp only[ϫ]at aa;by_cases hlt:k<l.length
  .obtain⟨b,o,c,hsv,hb,hlc,hm,hc⟩:=dO S.out I Z;simp only[Ĉ]at hsv;obtain⟨rfl,-,-⟩:=hsv;have S:wr.cell? ⟨b,o+k,none⟩=some (bn l[k]):=by rw[J.cell (p:=⟨b,o+k,none⟩) hb]; exact hc k hlt
   clear hc;obtain⟨d,hd⟩:∃d,l[k]=d:=⟨_,I⟩;rw[hd]at S;have ag:=PV wr #[.u ((d.toNat:Int)%256),.u ((d.toNat:Int)/256%256),.u ((d.toNat:Int)/65536%256),.u ((d.toNat:Int)/16777216%256)] 5 4 1 I (by unfold maxLen; omega) (by
    intro u S;simp only[Ù,Ź,or_false]at S;rcases S with rfl | rfl | rfl | rfl<;>rfl)
   have S:=D.alloc (.cells #[.u ((d.toNat:Int)%256),.u ((d.toNat:Int)/256%256),.u ((d.toNat:Int)/65536%256),.u ((d.toNat:Int)/16777216%256)] 5);have ab:w.heap.size+1<=(wr.alloc (.cells #[.u ((d.toNat:Int)%256),.u ((d.toNat:Int)/256%256),.u ((d.toNat:Int)/65536%256),.u ((d.toNat:Int)/16777216%256)] 5)).heap.size:=by simp; omega
   have ai:(Nb.bytes (l.take k)).length+4<=maxLen:=by unfold maxLen; omega
   have al:((Nb.bytes (l.take k)).length+4)*1<=140737488355328:=Z
   have HT:Hid (Nb.bytes (l.take (k+1))=Nb.bytes (l.take k)++Nb.le4 d):=by show _=_; rw[take_snoc l k hlt,hd,Xh]
   have HO:=FU D;clear hd D ae af;go_wp2_with (at_builtin; refine bV I _ _ _ I AX (w.heap.size+1) S I ag I ai al ab ?_; intro v' w' ac hg)
   go_roundw
   case rel =>
    refine⟨k+1,by go_num,Z,?_,?_⟩
    .rw[HT.out,Å,Ħ,ai9]; exact ac
    exact(J.alloc (by simpa using aa) _).grown hg (by simpa using ab) (λk hk=>by have:=(World.ownsRow.lt S k hk).1; simpa using this)
   case measure=>simp[intOf]; omega
  obtain rfl:k=l.length:=by omega
  have S:=bC D;have ht:=afB _ _ wr S;rw[ħ,abB]at ht;have HT:=FU ht;clear ht D S ae af;go_wp2_with fail
  refine HT.out.mono ?_;rintro e w' ⟨v',rfl,D,rfl⟩;have S:=FU D;clear D;go_wp2_with fail
  go_ret
  exact⟨_,I,S.out,Ip ah.out J⟩
end Go.Proofs.Õ
namespace Go.Proofs.Õ
open En Na Nb
variable{α:Type}
attribute [local go_sem] Go.Rel.Does Go.Rel.Upon Go.Rel.kept Go.Rel.valOf
def iy(r:Bool×Nat×Nat):List UInt8:=(if r.1 then 1 else 0)::(gJ (au r.2.1)++gJ (au r.2.2))
abbrev ach{R:E5->y9->α->Prop}(w:E5)(x y z:y9)(a b c:α)(e:Ð)(J:R (w.alloc (.cells #[x,y,z] e)) x a)(S:R (w.alloc (.cells #[x,y,z] e)) y b)(h3:R (w.alloc (.cells #[x,y,z] e)) z c) :
    Iq R (w.alloc (.cells #[x,y,z] e)) (.s (some ⟨w.heap.size,0,none⟩) 3 3) [a,b,c]:=by
 refine⟨_,_,I,by unfold maxLen; omega,.inr ⟨_,_,I,by simp,Ç _,λi D=>?_⟩⟩;rw[Ī,World.cell?_alloc_at _ _ _ _ I];rcases i with _ | _ | _ | i
 .exact⟨x,I,J⟩
 .exact⟨y,I,S⟩
 .exact⟨z,I,h3⟩
 exact absurd D Y
abbrev Yv{w w':E5}{v:y9}{J:List (List UInt8)}(h:yS w v J)(D:Ext w w'):yS w' v J:=Iq.below (λ_ _ _ _ D h=>h.below D) h D
abbrev aC.parts{base:Nat}{w:E5}{s t:y9}{n m neg:Bool}{a b:Nat}(h:aC base w (.agg #[.b n,s,.b m,t]) neg a b) :
    aH w s (RI a)∧aH w t (RI b)∧From base s∧From base t:=by
 obtain⟨s',t',e,D,J,fs,S⟩:=h;simp only[ů,Ů,Ă,and_true]at e;obtain⟨-,rfl,-,rfl⟩:=e;exact⟨D,J,fs,S⟩
abbrev wU(n1 S:Bool)(s1 s2:y9)(l m:List UInt32)(w:E5)(D:aH w s1 l)(h2:aH w s2 m)(J:l.length<=50000000)(aw:m.length<=50000000) :
    Nq prog 127 #[.agg #[.b n1,s1,.b S,s2]] w λe w'=>∃v,e = .R v∧w'.ownsRow w.heap.size 5 1 v (iy (nrm n1 S (TR l) (TR m))).length ((iy (nrm n1 S (TR l) (TR m))).map gY)∧Ext w w':=by
 have al:=aax n1 S l m;have J:=aI w (.cells #[.b n1,s1,.b S,s2] 26);have HC:=FU (pK n1 S s1 s2 l m _ (D.below J) (h2.below J) Z Z);have am:=FU J;obtain⟨a1,c1,rfl⟩:=D.shape;obtain⟨a2,c2,rfl⟩:=h2.shape;generalize nrm n1 S (TR l) (TR m)=r at *;obtain⟨ng,a,b⟩:=r;simp only at al;clear D h2 J;go_enter func127,ntmps127
 go_wp2_with fail
 refine HC.out.mono ?_;rintro e w1 ⟨x,rfl,S,J⟩;obtain⟨b1,d1,b2,d2,rfl⟩:=S.shape;obtain⟨r0,f0,hz⟩:=jg J;have F:=FU S;have an:=FU (Ip am.out J);clear S J HC;obtain⟨sg,J⟩:∃sg:UInt8,sg=if ng then 1 else 0:=⟨_,I⟩
 obtain⟨nb,S⟩:∃nb:Bool,nb=ng:=⟨_,I⟩;obtain⟨q,hq⟩:∃q,q=iy (nb,a,b):=⟨_,I⟩;have HQ:Hid ([[sg],gJ (au a),gJ (au b)].flatten=q):=by
  show _=_;rw[hq,J,S]; simp[iy]
 have ab:([[sg],gJ (au a),gJ (au b)].flatten).length<=1000000000:=by
  have:=QH a;have:=QH b;have:=iL 10 (au a).length;have:=iL 10 (au b).length;simp[gJ]; omega
 have ao:=FU ab;have Nc:=FU hq;have ap:=FU J;have ac:=FU S;clear hq ab;clear J S;have J:=QH a;have J:=QH b;have HP:=FU (F.out.parts);clear F;rcases aG9 ng with rfl | rfl;all_goals
  go_wp2_with fail
  generalize hW:World.setCell _ _ _=W
  have ae:Ext w W:=by rw[<-hW]; exact rE an.out (Ç _) _ _ _ _
  have hk:∀w',Ext W w'->w'.cell? ⟨w.heap.size,0,none⟩=some (.b nb)∧w'.cell? ⟨w.heap.size,1,none⟩=some (.s b1 (RI a).length d1)∧w'.cell? ⟨w.heap.size,2,none⟩=some (.z)∧w'.cell? ⟨w.heap.size,3,none⟩=some (.s b2 (RI b).length d2):=by
    intro w' S
    have J:w.heap.size<W.heap.size:=by rw[<-hW]; simpa[World.setCell]using hz
    refine⟨?_,?_,?_,?_⟩
    · rw[S.cell (p:=⟨w.heap.size,0,none⟩) J,<-hW,ac.out]; simp[go_sem,r0]
    · rw[S.cell (p:=⟨w.heap.size,1,none⟩) J,<-hW]; simp[go_sem,r0]
    · rw[S.cell (p:=⟨w.heap.size,2,none⟩) J,<-hW]; simp[go_sem,r0]
    · rw[S.cell (p:=⟨w.heap.size,3,none⟩) J,<-hW]; simp[go_sem,r0]
  have HK:=FU hk
  have hA:aH W (.s b1 (RI a).length d1) (RI a):=by
    rw[<-hW]; exact HP.out.1.ch (((((Ch.refl w.heap.size _).setCell _ _).setCell _ _).setCell _ _).setCell _ _) (λ_=>HP.out.2.2.1.off Y)
  have hB:aH W (.s b2 (RI b).length d2) (RI b):=by
    rw[<-hW]; exact HP.out.2.1.ch (((((Ch.refl w.heap.size _).setCell _ _).setCell _ _).setCell _ _).setCell _ _) (λ_=>HP.out.2.2.2.off Y)
  have af:=FU (And.intro hA hB)
  have ag:=FU ae
  clear hk hW ae hA hB
  refine Go.Rel.wp_region 12 X X Ext (λw'=>Ext W w')
    [Rel.is (gY sg),λv w'=>bK w' v [sg],Rel.is (.q w.heap.size 0),Rel.is (.agg #[.b nb,.s b1 (RI a).length d1]),
     λv w'=>bK w' v (au a),λv w'=>bK w' v (gJ (au a)),Rel.is (.q w.heap.size 2),Rel.is (.agg #[.z,.s b2 (RI b).length d2]),
     λv w'=>bK w' v (au b),λv w'=>bK w' v (gJ (au b)),λv w'=>yS w' v [[sg],gJ (au a),gJ (au b)],
     λv w'=>OwnB w.heap.size w' v q]
    ?_ ?_ ?_ ⟨?_,?_,?_,?_,?_,?_,?_,?_,?_,?_,?_,?_,G⟩ ?_
  · exact below_drewN (ø _ _) 1
  · exact λ_ _ h k=>Ip h k
  · exact Rel.CV.mem ⟨Rel.aA _,λ_ _ _ h k=>k.below h,Rel.aA _,Rel.aA _,λ_ _ _ h k=>k.below h,λ_ _ _ h k=>k.below h,Rel.aA _,Rel.aA _,λ_ _ _ h k=>k.below h,λ_ _ _ h k=>k.below h,
      λ_ _ _ h k=>Yv k h,λ_ _ _ h k=>dF k h,G⟩
  · intro ρ w' S ho J hd
    have h2:ρ (.tmp 3)=gY sg:=(ho 3 I).trans (by rw[ap.out]; rfl)
    simp[go_sem,h2]
    exact⟨å,I⟩
  · intro ρ w' S ho J hd
    obtain⟨hd1,-⟩:=hd
    have D:ρ (.tmp 9)=_:=hd1 I
    simp[go_sem,D]
    exact⟨aI _ _,PW _ [sg] _ (by unfold maxLen; simp)⟩
  · intro ρ w' S ho J hd
    have h2:ρ (.tmp 1) = .q w.heap.size 0:=ho 1 I
    simp[go_sem,h2]
    exact⟨å,I⟩
  · intro ρ w' S ho J hd
    obtain⟨hd1,-⟩:=hd
    have D:ρ (.tmp 11)=_:=hd1 I
    obtain⟨k1,k2,-⟩:=HK.out w' J
    simp[go_sem,D,k1,k2]
    exact⟨å,I⟩
  · intro ρ w' S ho J hd
    obtain⟨hd1,-⟩:=hd
    have D:ρ (.tmp 12)=_:=hd1 I
    simp[go_sem,D,S.func]
    have hc:=Ot nb _ _ w' (af.out.1.below J) Z
    rw[RH]at hc
    refine hc.mono ?_
    rintro e aa ⟨v,rfl,hr,hb⟩
    exact⟨_,I,hb,hr⟩
  · intro ρ w' S ho J hd
    obtain⟨hd1,-⟩:=hd
    have D:bK w' (ρ (.tmp 13)) _:=hd1 I
    simp[go_sem,S.func]
    refine(oL _ _ w' D Z).mono ?_
    rintro e aa ⟨v,rfl,hr,hb⟩
    exact⟨_,I,hb,bC hr⟩
  · intro ρ w' S ho J hd
    have h2:ρ (.tmp 1) = .q w.heap.size 0:=ho 1 I
    simp[go_sem,h2]
    exact⟨å,I⟩
  · intro ρ w' S ho J hd
    obtain⟨hd1,-⟩:=hd
    have D:ρ (.tmp 15)=_:=hd1 I
    obtain⟨-,-,k1,k2⟩:=HK.out w' J
    simp[go_sem,D,k1,k2]
    exact⟨å,I⟩
  · intro ρ w' S ho J hd
    obtain⟨hd1,-⟩:=hd
    have D:ρ (.tmp 16)=_:=hd1 I
    simp[go_sem,D,S.func]
    have hc:=Ot false _ _ w' (af.out.2.below J) Z
    rw[RH]at hc
    refine hc.mono ?_
    rintro e aa ⟨v,rfl,hr,hb⟩
    exact⟨_,I,hb,hr⟩
  · intro ρ w' S ho J hd
    obtain⟨hd1,-⟩:=hd
    have D:bK w' (ρ (.tmp 17)) _:=hd1 I
    simp[go_sem,S.func]
    refine(oL _ _ w' D Z).mono ?_
    rintro e aa ⟨v,rfl,hr,hb⟩
    exact⟨_,I,hb,bC hr⟩
  · intro ρ w' S ho J hd
    obtain⟨hd1,aq,ar,-⟩:=hd
    have D:bK w' (ρ (.tmp 10)) _:=hd1 I
    have h2:bK w' (ρ (.tmp 14)) _:=aq I
    have h3:bK w' (ρ (.tmp 18)) _:=ar I
    obtain⟨x1,y1,e1⟩:=D.shape
    obtain⟨x2,y2,e2⟩:=h2.shape
    obtain⟨x3,y3,e3⟩:=h3.shape
    rw[e1]at D
    rw[e2]at h2
    rw[e3]at h3
    simp[go_sem,e1,e2,e3]
    exact⟨aI _ _,ach w' _ _ _ _ _ _ _ (D.below (aI _ _)) (h2.below (aI _ _)) (h3.below (aI _ _))⟩
  · intro ρ w' S ho J hd
    obtain⟨hd1,-⟩:=hd
    have D:yS w' (ρ (.tmp 19)) _:=hd1 I
    simp[go_sem,S.func]
    refine(Yu _ _ w' D ao.out).mono ?_
    rintro e aa ⟨v,rfl,hr,hb⟩
    refine⟨_,I,hb,?_⟩
    rw[HQ.out]at hr
    exact bF hr (by have:=(Ip ag.out J).size; exact this)
  · intro w' J
    rintro _ rfl v1 D _ rfl _ rfl v4 h4 v5 h5 _ rfl _ rfl v8 h8 v9 h9 S av ah ai
    change Ã _ _ _ (List.drop 12 _) _ _
    simp only[List.drop_succ_cons,Ϻ]
    have S:Hid (w'.ownsRow w.heap.size 5 1 ah (iy (nb,a,b)).length ((iy (nb,a,b)).map gY)):=by
      have:=Nc.out
      rw[<-this]; exact ai
    rw[ac.out]at S
    have HX:=FU (Ip ag.out J)
    clear D h4 h5 h8 h9 av ai
    go_wp2_with fail
    go_ret
    exact⟨ah,I,S.out,HX.out⟩
end Go.Proofs.Õ
end
namespace Go.Proofs.Õ
section
open En
variable{α:Type}
abbrev iB (x:Int):List UInt8:=dX 10 (zig x)
def iJ(f:α->List UInt8)(l:List α):List UInt8:=dX 10 l.length++l.flatMap f
def lF(s:dL):List UInt8:=dY [s.verb,s.a.x,s.a.y,s.b.x,s.b.y,s.c.x,s.c.y]
def jC(s:dI):List UInt8:=dY [s.o]++Px.pb s.c
def tX(pk:Bool)(m:oW):List UInt8:=dY [m.w,m.h]++(if pk=true then gJ (Px.enc m.l)else m.l.flatMap Px.pb)
def tY(q:Q6):List UInt8:=[q.a,q.b,q.c,q.d,q.e,q.f].flatMap iy
def fG(pk:Bool)(p:jo):List UInt8:=dY [p.kind]++Px.pb p.color++dY [p.p0.x,p.p0.y,p.p1.x,p.p1.y,p.bW]++iJ jC p.stops++dY [p.spread]++tX pk p.img++dY [p.cZ]++tY p.q
def DL(p:kW):List UInt8:=dY [p.width,p.join,p.cap,p.eP,p.phase]++iJ iB p.dash
def qw(b:Bool):UInt8:=if b=true then 1 else 0
def nV(pk:Bool)(n:aO):List UInt8:=
 if n.kind=1 then [n.dJ]++dY [n.blend]++[qw n.isolated,qw n.dA]
 else if n.kind=2 then iJ lF n.path++dY [n.aV]++iJ (fG pk) n.fill++iJ (fG pk) n.stroke++(if 0<n.stroke.length then DL n.style else [])
 else if n.kind=3 then tX pk n.img++dY [n.cZ]else []
def fA(pk:Bool)(n:aO):List UInt8:=dY [n.id,n.kind,n.depth]++tY n.q++iJ lF n.clip++dY [n.aP]++nV pk n
def dW(s:bG):List UInt8:=[71,83,49]++dY [s.w,s.h]++Px.pb s.bg++iJ (fA false) s.ns
def GY(pk:Bool)(e:bY):List UInt8:=dY [e.kind,e.id,e.index,e.depth]++(if e.kind=1∨e.kind=4 then fA pk e.node else if e.kind=5 then Px.pb e.color else [])
def kR(e:bY):List UInt8:=[71,69,49]++GY false e
variable{f:α->List UInt8}{N:Nat}
abbrev lg{l:List α}{k:Nat}{x:α}(hk:k<l.length)(D:l[k]=x)(B:List UInt8):B++(l.take k).flatMap f++f x=B++(l.take (k+1)).flatMap f:=by
 rw[ĸ hk,D,ŀ]; simp
abbrev JB{l:List α}{B:List UInt8}(h:(B++l.flatMap f).length<=N)(k:Nat):(B++(l.take k).flatMap f).length<=N:=by
 rw[Å]at h |-;have:((l.take k).flatMap f).length<=(l.flatMap f).length:=by
  conv=>rhs; rw[<-ň k l,ŀ,Å]
  omega
 omega
abbrev amT{l:List α}(h:(l.flatMap f).length<=N):∀x∈l,(f x).length<=N:=λx D=>by
 obtain⟨s,t,rfl⟩:=List.append_of_mem D;rw[ŀ,Ķ,Å,Å]at h;omega
abbrev aay{l:List α}{B:List UInt8}(h:(B++l.flatMap f).length<=N):∀x∈l,(f x).length<=N:=amT (by rw[Å]at h; omega)
end
section
open En
variable{α:Type}{K:Nat}
variable{p:ak}{s:aB}
abbrev aja(f:Nat):∀n,0<n->(dX f n).length<=n:=by
 induction f with
 | zero=>intro n h; simp[dX]
 | succ f ih =>
  intro n h;unfold dX;split
  .simp; omega
  have:=ih (n/128) Z;simp only[Ē]; omega
abbrev ajb{R:List (Nat×bI)}:∀{last:Option bI},Px.good last R->(Px.rb R).length<=5*(Px.flat R).length:=by
 induction R with
 | nil=>intro _ _; exact Î _
 | cons z R ih =>
  intro last h;obtain⟨n,p⟩:=z;simp only[Px.good]at h;have:=ih h.F;have:=aja 10 n h.1;simp only[Px.rb,Px.pb,Px.flat,Å,Ē,ł,List.length_replicate];omega
abbrev JC(l:List bI):(Px.enc l).length<=5*l.length:=by
 have h:=Px.ER l;have:=ajb h.1;rw[h.2]at this;exact this
theorem Yw{f:α->List UInt8}{M:Nat}:∀{l:List α},(∀x∈l,(f x).length<=M)->(l.flatMap f).length<=l.length*M
 | [],_=>by simp
 | x::l,h=>by
  have D:=h x Ö
  have D:=Yw (l:=l) λy D=>h y (ļ _ D)
  rw[Ķ,Å,Ē,Nat.succ_mul]; omega
abbrev vW{f:α->List UInt8}{M N:Nat}{l:List α}(h:∀x∈l,(f x).length<=M)(hl:l.length<=N):(iJ f l).length<=10+N*M:=by
 unfold iJ;have D:=Yw h;have D:=iL 10 l.length;have D:=ō M hl;rw[Å]; omega
abbrev aaz(s:dL):(lF s).length<=70:=iM _
abbrev Yx(s:dI):(jC s).length<=14:=by unfold jC; rw[Å]; have:=iM [s.o]; simp[Px.pb]at this |-; omega
abbrev aaA{pk:Bool}{m:oW}(h:m.l.length<=65536):(tX pk m).length<=327800:=by
 unfold tX;have D:=iM [m.w,m.h];have J:=JC m.l;have J:=Yw (f:=Px.pb) (M:=4) (l:=m.l) λx _=>Ç _;have J:=iL 10 (Px.enc m.l).length;simp only[Ē,ł]at D;rw[Å];cases pk
 .simp only[ϝ,if_false]; omega
 simp only[if_true,gJ,Å]; omega
abbrev FY{n:Nat}(h:bl n<=256):n<Nb.B^32:=by
 show n<256^32;rw[show(256:Nat)^32=2^256 by rfl];unfold bl at h;split at h
 .omega
 exact ö Nat.lt_log2_self (ķ O h)
abbrev q_len{q:Bool×Nat×Nat}(h:eY q<=256):(iy q).length<=100:=by
 unfold eY at h;have D:=Nb.bJ (FY (n:=q.2.1) Z);have D:=Nb.bJ (FY (n:=q.2.2) Z);have D:=iL 10 (Nb.au q.2.1).length;have D:=iL 10 (Nb.au q.2.2).length;simp only[iy,gJ,Ē,Å];omega
abbrev aaB{q:Q6}(h:q.valid=true):(tY q).length<=600:=by
 unfold Q6.valid at h;simp only[Û,Þ]at h;obtain⟨D,J,S,h4,h5,h6⟩:=h;have:=q_len D;have:=q_len J;have:=q_len S;have:=q_len h4;have:=q_len h5;have:=q_len h6;simp only[tY,Ķ,List.flatMap_nil,Å,ł];omega
abbrev FZ{l:List dI}(h:iK l=true):l.length<=16:=by
 unfold iK at h;simp only[Û,Þ]at h;exact h.2.1
abbrev QI{m:dH}(h:m.valid=true):m.l.length<=65536:=by
 unfold dH.valid dH.size at h;simp only[Û,Þ,ß]at h;obtain⟨⟨-,-,D⟩,J,-⟩:=h;omega
abbrev Nh{k:Int}(h:p.eq (ak.bare k)=true):p.stops=[]∧p.img.l=[]∧p.img.w=0∧p.img.h=0:=by
 unfold ak.eq dH.eq at h;simp only[Û,Þ,ß]at h;refine⟨?_,?_,?_,?_⟩
 .have:p.stops=(ak.bare k).stops:=by simp_all
  exact this
 .have:p.img.l=(ak.bare k).img.l:=by simp_all
  exact this
 .have:p.img.w=(ak.bare k).img.w:=by simp_all
  exact this
 have:p.img.h=(ak.bare k).img.h:=by simp_all
 exact this
def dH.num(m:dH):Prop:=(m.l.length:Int)=m.w*m.h∧m.l.length<=65536∧0<=m.w∧m.w<=4096∧0<=m.h∧m.h<=4096
abbrev DN{m:dH}(h:m.valid=true):m.num:=by
 have hl:=QI h;unfold dH.valid dH.size side at h;simp only[Û,ß,Þ]at h;exact⟨h.2.1,hl,Z,Z,Z,Z⟩
abbrev yu{m:dH}(D:m.l=[])(J:m.w=0)(S:m.h=0):m.num:=by
 unfold dH.num; rw[D,J,S]; simp
abbrev uO(h:p.valid=true):p.t.q.valid=true∧p.stops.length<=16∧p.img.num:=by
 unfold ak.valid at h;simp only[cond_eq_ite]at h;split at h
 .cases h
 rename_i hw;simp only[ų,Ŏ,not_or,Bool.not_eq_false]at hw;refine⟨hw.1,?_⟩;have D:=Nh hw.2;unfold ak.without at D;simp only[cond_eq_ite]at D;split at h
 .rename_i J; rw[Á J]at D; exact⟨by rw[show p.stops=[]from D.1]; simp,yu D.2.1 D.D D.N⟩
 rename_i J;rw[UQ J]at D;split at h
 .rename_i S;rw[Á S]at D;split at h
  .cases h
  rename_i J;simp only[ų,Ŏ,not_or,Bool.not_eq_false,Û]at J;exact⟨FZ J.2.1,yu D.2.1 D.D D.N⟩
 rename_i S;rw[UQ S]at D;split at h
 .rename_i S;rw[Á S]at D;split at h
  .cases h
  rename_i J;simp only[ų,Ŏ,not_or,Bool.not_eq_false,Û]at J;exact⟨FZ J.2.1,yu D.2.1 D.D D.N⟩
 rename_i S;rw[UQ S]at D;split at h
 .rename_i h4;rw[Á h4]at D;split at h
  .cases h
  rename_i J;simp only[ų,Ŏ,not_or,Bool.not_eq_false,Û]at J;exact⟨by rw[show p.stops=[]from D.1]; simp,DN J.1.1⟩
 cases h
abbrev Ou{pk:Bool}(h:p.valid=true):(fG pk p.key).length<=330000:=by
 obtain⟨D,J,S⟩:=uO h;have a1:=aaB (q:=p.key.q) D;have a2:=aaA (pk:=pk) (m:=p.key.img) S.2.1;have D:=vW (f:=jC) (l:=p.key.stops) (M:=14) (N:=16) (λx _=>Yx x) J;have D:=iM [p.key.kind];have J:=iM [p.key.p0.x,p.key.p0.y,p.key.p1.x,p.key.p1.y,p.key.bW];have S:=iM [p.key.spread];have a7:=iM [p.key.cZ];simp only[Ē,ł]at D J S a7;simp only[fG,Å,Px.pb,Ē,ł];omega
structure aj.ϧ (n:aj):Prop where
 q:n.t.q.valid=true
 clip:n.clip.length<=256
 shape:n.kind=2->n.path.length<=256∧n.fill.length<=1∧n.stroke.length<=1∧(∀p∈n.fill,p.valid=true)∧(∀p∈n.stroke,p.valid=true)∧(0<n.stroke.length->n.style.dash.length<=16)
 img:n.kind=3->n.img.num
 bare:n.bare=true
 sty:n.kind=2->¬0<n.stroke.length->n.style.eq aX.bare=true
abbrev JD{l:List dL}(h:kK l=true):l.length<=256:=by
 unfold kK iF at h;by_cases h1:256<(l.length:Int)
 .rw[Á h1]at h; simp at h
 omega
abbrev Yy{l:List (Bool×Int)}(h:badL l=false):∀p∈l,p.1=false:=λp D=>by
 unfold badL at h;cases hb:p.1
 .rfl
 have:=List.any_eq_false.1 h p D; simp[hb]at this
abbrev uP{n:aj}(h:n.checkN=0):n.ϧ:=by
 obtain⟨S,D⟩:=xK h;have J:=Yy S;unfold aj.iE at J;simp only[Ù,Ź,or_false,forall_eq_or_imp,forall_eq,Ň]at J;obtain⟨-,-,h3,-,h5,S⟩:=J;simp only[Ĕ,Ň]at S;refine⟨h3,JD h5,λhk=>?_,λhk=>?_,S.2,λhk J=>?_⟩
 .unfold aj.rG at D;rw[hk]at D;simp only[show((2:Int)==1)=false from rfl,show((2:Int)==2)=true from rfl,cond_false,cond_true]at D;have J:=rH (λp S=>by
   simp only[aj.tJ,Ù,Ź,or_false]at S;rcases S with rfl | rfl | rfl | rfl | rfl | rfl<;>simp) D
  unfold aj.tJ at J;simp only[Ù,Ź,or_false,forall_eq_or_imp,forall_eq,Ň,Ĕ,Bool.and_eq_false_iff,Ą,Þ]at J;obtain⟨g1,-,g3,g4,-,g6⟩:=J;refine⟨JD g1,Z,Z,ñ.1 g6.1,ñ.1 g6.2,λhl=>?_⟩;rcases g4 with g4 | g4
  .omega
  unfold aX.valid tZ at g4;simp only[Û,Þ]at g4;omega
 .unfold aj.rG at D;rw[hk]at D;simp only[show((3:Int)==1)=false from rfl,show((3:Int)==2)=false from rfl,cond_false]at D;have J:=rH (λp S=>by
   simp only[Ù,Ź,or_false]at S;rcases S with rfl | rfl<;>simp) D
  simp only[Ù,Ź,or_false,forall_eq_or_imp,forall_eq,Ň]at J;exact DN J.1
 unfold aj.rG at D;rw[hk]at D;simp only[show((2:Int)==1)=false from rfl,show((2:Int)==2)=true from rfl,cond_false,cond_true]at D;have J:=rH (λp S=>by
  simp only[aj.tJ,Ù,Ź,or_false]at S;rcases S with rfl | rfl | rfl | rfl | rfl | rfl<;>simp) D
 unfold aj.tJ at J;simp only[Ù,Ź,or_false,forall_eq_or_imp,forall_eq,Ň,Ĕ,Bool.and_eq_false_iff,Ą,Þ]at J;obtain⟨-,-,-,-,D,-⟩:=J;rcases D with D | D
 .omega
 exact D
abbrev UE{pk:Bool}{n:aj}(h:n.ϧ):(fA pk n.key).length<=700000:=by
 have a1:=aaB (q:=n.key.q) h.q;have a2:=vW (f:=lF) (l:=n.key.clip) (M:=70) (N:=256) (λx _=>aaz x) h.clip;have S:=iM [n.key.id,n.key.kind,n.key.depth];have a4:=iM [n.key.aP];have hk:(nV pk n.key).length<=680000:=by
  unfold nV;split
  .have:=iM [n.key.blend]; simp at this |-; omega
  split
  .rename_i hk;obtain⟨b1,b2,b3,b4,b5,b6⟩:=h.shape hk;have c1:=vW (f:=lF) (l:=n.key.path) (M:=70) (N:=256) (λx _=>aaz x) b1;have c2:=vW (f:=fG pk) (l:=n.key.fill) (M:=330000) (N:=1) (λx D=>by obtain⟨p,J,rfl⟩:=ô.1 D; exact Ou (b4 p J)) (by simpa[aj.key]using b2);have c3:=vW (f:=fG pk) (l:=n.key.stroke) (M:=330000) (N:=1) (λx D=>by obtain⟨p,J,rfl⟩:=ô.1 D; exact Ou (b5 p J)) (by simpa[aj.key]using b3);have c4:=iM [n.key.aV];have c5:(if 0<n.key.stroke.length then DL n.key.style else []).length<=300:=by
    split
    .rename_i hs;have D:=vW (f:=iB) (l:=n.key.style.dash) (M:=10) (N:=16) (λx _=>iL 10 _) (b6 (by simpa[aj.key]using hs));have D:=iM [n.key.style.width,n.key.style.join,n.key.style.cap,n.key.style.eP,n.key.style.phase];simp only[DL,Å,Ē,ł]at D |-; omega
    simp
   simp only[Å,Ē,ł]at c4 |-; omega
  split
  .rename_i hk;have:=aaA (pk:=pk) (m:=n.key.img) (h.img hk).2.1;have:=iM [n.key.cZ];simp only[Å,Ē,ł]at this |-; omega
  simp
 simp only[fA,Å,Ē,ł]at S a4 |-;omega
abbrev aj.ϧ.amU{n:aj}(h:n.ϧ):(n.kind=3->n.img.l.length<=1000000)∧(n.kind=2->(∀p∈n.fill,p.img.l.length<=1000000)∧∀p∈n.stroke,p.img.l.length<=1000000):=
 ⟨λhk=>by have:=(h.img hk).2; omega,λhk=>⟨λp D=>by have:=(uO ((h.shape hk).C p D)).C; omega,λp D=>by have:=(uO ((h.shape hk).A p D)).C; omega⟩⟩
abbrev rM(h:s.key.valid=true):s.ns.length<=64∧∀n∈s.ns,n.ϧ:=by
 obtain⟨-,D,J⟩:=bG.lY.1 h;refine⟨by simpa[aB.key]using D,λn hn=>uP ?_⟩;rw[<-kY];exact(EJ.1 J).1 _ (ô.2 ⟨n,hn,I⟩)
abbrev ES(h:s.key.valid=true):(dW s.key).length<=50000000:=by
 obtain⟨J,S⟩:=rM h;have a1:=vW (f:=fA false) (l:=s.key.ns) (M:=700000) (N:=64) (λx D=>by obtain⟨n,hn,rfl⟩:=ô.1 D; exact UE (S n hn)) (by simpa[aB.key]using J);have a2:=iM [s.key.w,s.key.h];simp only[dW,Å,Ē,ł,Px.pb]at a2 |-;omega
end
end Go.Proofs.Õ
section
namespace Go.Sx
open Na Nb En
structure Rl (kp:Ð->Nat->Bool) (base:Nat) (w w':E5):Prop where
 bel:Below base w w'
 obj:∀(g:Nat) (cur:Array y9) (e:Ð),w.heap[g]?=some (.cells cur e (0,0))->∃cur':Array y9,w'.heap[g]?=some (.cells cur' e (0,0))∧cur'.size=cur.size∧∀i:Nat,kp e i=true->cur'[i]?=cur[i]?
section
variable{kp:Ð->Nat->Bool}{base:Nat}{w w' w2:E5}
abbrev Rl.refl:Rl kp base w w:=⟨ø _ _,λg D e h=>⟨D,h,I,λ_ _=>rfl⟩⟩
abbrev Rl.trans(h:Rl kp base w w')(k:Rl kp base w' w2):Rl kp base w w2:=⟨h.bel.trans k.bel,λg D e J=>by
 obtain⟨c1,S,h2,h3⟩:=h.obj g D e J;obtain⟨c2,k1,J,k3⟩:=k.obj g c1 e S;exact⟨c2,k1,J.trans h2,λi D=>(k3 i D).trans (h3 i D)⟩⟩
abbrev Rl.set{g off:Nat}{J:Array y9}{e:Ð}{cs:List y9}(h:w.heap[g]?=some (.cells J e (0,0)))(hb:base<=g)(hf:off+cs.length<=J.size)(hk:∀j,j<cs.length->kp e (off+j)=false):Rl kp base w (w.setCells g off cs):=by
 have hc:Ch g w (w.setCells g off cs):=(Ch.refl g w).setCells cs off;refine⟨hc.below hb (ä hb (Δ (oM h).1)),λg' S e' D=>?_⟩;by_cases hgg:g'=g
 .subst hgg;rw[h]at D;simp only[Æ,Obj.cells.injEq,and_true]at D;obtain⟨rfl,rfl⟩:=D;refine⟨_,vX g' e (0,0) cs off w J h hf,by unfold spl; simp; omega,λi J=>?_⟩;rw[List.getElem?_toArray];unfold spl;rw[List.getElem?_append,List.getElem?_append];simp only[Å,Ĳ,Array.length_toList,List.getElem?_take,List.getElem?_drop];rw[Ε Z];by_cases h1:i<off
  .simp[h1,show i<off+cs.length by omega]
  by_cases h2:i<off+cs.length
  .exfalso;have:=hk (i-off) Z;rw[show off+(i-off)=i by omega,J]at this;cases this
  simp[h2,show off+cs.length+(i-(off+cs.length))=i by omega]
 exact⟨S,(hc.block g' (oM D).1 λe=>hgg (Ò e)).trans D,I,λ_ _=>rfl⟩
variable{P:Program}{ops:Array Oper}{Q:Exit->Act->E5->Prop}{w0:E5}{a:Act}{os:List Oper}{n:Nat}{l:List (Nat×y9)}{bl:List (Nat×List y9)}{vs:List eX}
abbrev St.au5{g off:Nat}{D:Array y9}{e:Ð}{cs:List y9}(S:St w0 a w n l bl vs)(h:w.heap[g]?=some (.cells D e (0,0)))(hb:w0.heap.size<=g)(J:∀p∈bl,p.1≠g):St w0 a (w.setCells g off cs) n l bl []:=by
 have hc:Ch g w (w.setCells g off cs):=(Ch.refl g w).setCells cs off;exact⟨S.s,qE S.E hb cs off,λp D=>⟨(S.own p D).1.ch hc (J p D),(S.own p D).2⟩,S.apart,λm hm=>by cases hm⟩
end
end Go.Sx
namespace Go.Sx
open Na Nb En
section
variable{P:Program}{ops:Array Oper}{Q:Exit->Act->E5->Prop}{w0 w:E5}{a:Act}{os:List Oper}{n:Nat}{l:List (Nat×y9)}{bl:List (Nat×List y9)}{vs:List eX}{rs:List Row}
abbrev bR (v:y9)(B:List UInt8):Row:=⟨5,1,v,B.length,B.map gY⟩
abbrev xg{v:y9}{B:List UInt8}(S:St w0 a w n l bl vs)(R:Rw w0 w bl (bR v B::rs))(d:Nat){y:y9}(D:List UInt8)(hy:dQ w 1 y D.length (D.map gY))(hb:(B++D).length<=100000000000)
  (next:∀a' w' J,Stp (Ob bl (bR v B::rs)) w (Ob bl (bR J (B++D)::rs)) w'->Rw w0 w' bl (bR J (B++D)::rs)->St w0 a' w' n ((d,J)::l) bl []->Ã prog ops Q (os.drop 1) a' w')
  (hx:JE os l=some (53,v,y,some d):=by kernel_rfl) (hd:uG n (some d)=true:=by rfl):Ã prog ops Q os a w:=by
 rw[Å]at hb;refine app S R 0 d I AX hy (by show B.length+D.length<=9223372036854775807; omega) (by show(B.length+D.length)*1<=140737488355328; omega) (λa' w' J Ó R S=>?_) hx hd;have e:(⟨5,1,J,B.length+D.length,B.map gY++D.map gY⟩:Row)=bR J (B++D):=by simp[bR]
 have Ó:Stp (Ob bl (bR v B::rs)) w (Ob bl ((⟨5,1,J,B.length+D.length,B.map gY++D.map gY⟩:Row)::rs)) w':=Ó;have R:Rw w0 w' bl ((⟨5,1,J,B.length+D.length,B.map gY++D.map gY⟩:Row)::rs):=R;rw[e]at Ó R;exact next a' w' J Ó R S
abbrev Ov(S:St w0 a w n l bl vs){f:FuncId}{args:Array y9}{R:Ending->E5->Prop}(d:Option Nat)(hc:Nq P f args w R)
  (next:∀e w',R e w'->∃V,e = .R V∧Ext w0 w'∧∀J,St w0 J w' n (zS l d V) [] []->Ã P ops Q (os.drop 1) J w') (D:callOf P os l=some (f,args,d):=by kernel_rfl) (hd:uG n d=true:=by rfl):Ã P ops Q os a w:=by
 cases os with
 | nil=>cases D
 | cons o os =>
  unfold callOf at D;simp only at D;split at D
  .rename_i f' args' hg hav hev;simp only[Æ,Ê]at D;obtain⟨rfl,rfl,rfl⟩:=D;simp only[Ĕ]at hav;have J:(execOp a.eval o).run P w = .ok (.enter f' args') w:=lN (Std.act a) (gG (bT S.s) o) (p:=[]) I hav.1 (by simpa using hav.2) hev;unfold Ã;rw[Á (by simp[Region.wanted,hg])];left;unfold Oper.wp;rw[J];simp only[Oper.upon];refine hc.mono λe w' J=>?_;obtain⟨V,rfl,hE,next⟩:=next e w' J;exact next _ ⟨tC S.s hd V,hE,λp J=>(by cases J),List.nodup_nil,λm hm=>by cases hm⟩
  cases D
end
abbrev zf{α:Type}{f:α->List y9}{k:Nat}{w:E5}{b:Nat}(L:List α)(hf:∀x,(f x).length=k)(D:Bx w b (L.flatMap f).toArray)(hl:L.length<=maxLen):aG k f w (.s (some ⟨b,0,none⟩) L.length L.length) L:=
 ⟨_,_,I,hl,.inr ⟨b,0,I,D.1,Ç _,λi J j S=>by
  have:=D.2.1 (0+i*k+j)
  rw[Ī]at this |-
  rw[this,<-sK hf L i J j S]; simp⟩⟩
end Go.Sx
namespace Go.Proofs.Õ
open Na Nb En
abbrev vY{base:Nat}{L:List Int}{v:y9}{w:E5}(h:iC base (L.map λx => .i x) (some L.length) v w)(hl:L.length<=maxLen):afx w v L:=by
 obtain⟨b,rfl,-,D⟩:=h;exact lZ (f:=λx:Int => .i x) L D hl
def rY:List Int->Prop
 | []=>True
 | x::L=>I64 x∧rY L
abbrev rY.all:∀{L:List Int},rY L->∀x∈L,I64 x
 | _::_,h,x,D=>by
  rcases Ù.1 D with rfl | D
  .exact h.1
  .exact rY.all h.2 x D
abbrev lq{w0 w:E5}{base:Nat}{v:y9}{B:List UInt8}{bl:List (Nat×List y9)}(R:Sx.Rw w0 w bl [])(h:OwnB base w v B)(S:∀p∈bl,p.1<base)(h0:w0.heap.size<=base):Sx.Rw w0 w bl [Sx.bR v B]:=
 R.add h (λb D=>by
  simp only[Sx.Ob,List.filterMap_nil,ĳ]at D
  obtain⟨p,J,rfl⟩:=ô.1 D
  exact S p J) h0
end Go.Proofs.Õ
end
abbrev ē:=@Go.Sx.xg
