/- Chapter 7's walks for seats -/
import Derived.Test.YtodpgjjgaddkeaaGreatDoorPk14
import Derived.Lib.AppendZeros
set_option maxHeartbeats 9999999
open Go renaming World->VO,Value->aaT,Calls->abB,wpList->aiw
open Go.Proofs.Tryz
set_option maxRecDepth 100000
set_option linter.unusedVariables false
set_option linter.unusedSimpArgs false
namespace Go.Proofs.Vy
section
open Go.RowKit Na Nb En Go.Sx
variable{α:Type}
abbrev Yo(v:aaT)(l:List UInt8)(w:VO)(D:bP w v l)(J:l.length<=140737488355328) :
  abB prog 61 #[v] w λe w'=>∃v',e = .R v'∧w'.ownsRow w.heap.size 5 1 v' l.length (l.map iy)∧Below w.heap.size w w':=by
 have J:=D.raw (λ_=>I);obtain⟨a,cap,rfl,hm,S⟩:=D;rcases a with _ | ad
 .have hz:l=[]∧cap=0:=by
   rcases S with ⟨h,D⟩ | ⟨b,o,h,_⟩
   .exact⟨h,D I⟩
   cases h
  obtain⟨rfl,rfl⟩:=hz;have D:=Lib.run_eql_slice_nil (P:=prog) w 53 5 none 0 0 0 0 underlying53;clear S J;go_enter func61,ntmps61
  go_wp2
  go_ret
  exact⟨_,I,aFN _ _ _ _,aDC _ _⟩
 have D:=Lib.run_eql_slice_nil (P:=prog) w 53 5 (some ad) l.length cap 0 0 underlying53;have D:=aFB (base:=w.heap.size) (e:=5) (size:=1) w #[] 0 (aDd _) (aDl _) I;have J:=Ef J (.cells #[] 5);have aa:0+l.length<=maxLen:=by
  rcases S with ⟨rfl,_⟩ | ⟨b,o,_,_,h,_⟩
  .simp
  omega
 have ab:(0+l.length)*1<=140737488355328:=Z
 clear S;go_enter func61,ntmps61
 go_wp2_with (at_builtin; refine bV I _ _ _ I AA w.heap.size D I J I aa ab Y ?_; intro v' w' D J)
 go_ret
 simp only[aEa,aD8]at D;exact⟨_,I,by simpa using D,((aDC _ _).alloc (aDd _) _).grown J Y (by simp[Value.ownBlock])⟩
abbrev aal(l:List UInt8):gq.crc [l]=gq.update 0 l:=rfl
abbrev aam(x:UInt32):(x.toNat:Int)/(65536:Int)=((x>>>16).toNat:Int):=by
 rw[aF0]; simp[Nat.shiftRight_eq_div_pow]
abbrev aan(x:UInt32):(x.toNat:Int)/(16777216:Int)=((x>>>24).toNat:Int):=by
 rw[aF0]; simp[Nat.shiftRight_eq_div_pow]
abbrev ace(x:UInt32):(gq.le4 x).map iy =
  [.u ((x.toNat:Int)%256),.u ((x.toNat:Int)/256%256),.u ((x.toNat:Int)/65536%256),.u ((x.toNat:Int)/16777216%256)]:=by
 simp only[gq.le4,aD1,aEr,iy];rw[aeb,aam,aan,wY,wY,wY,wY]
abbrev ai2(x:UInt32)(w:VO)(e:TypeId):dR (w.alloc (.cells #[.u ((x.toNat:Int)%256),.u ((x.toNat:Int)/256%256),.u ((x.toNat:Int)/65536%256),.u ((x.toNat:Int)/16777216%256)] e)) 1
  (.s (some ⟨w.heap.size,0,none⟩) 4 4) 4 ((gq.le4 x).map iy):=by
 rw[ace];exact Pj w _ e 4 1 I (by unfold maxLen; omega) (by intro u D; simp at D; rcases D with rfl | rfl | rfl | rfl<;>rfl)
abbrev yg(v:aaT)(l:List UInt8)(w:VO)(J:bP w v l)(D:l.length<=100000000000) :
  abB prog 32 #[v] w λe w'=>∃v',e = .R v' ∧
   w'.ownsRow w.heap.size 5 1 v' (l++gq.le4 (gq.update 0 l)).length ((l++gq.le4 (gq.update 0 l)).map iy)∧Below w.heap.size w w':=by
 obtain⟨a,cap,rfl⟩:∃a cap,v = .s a l.length cap:=by obtain⟨a,cap,h,_⟩:=J; exact⟨a,cap,h⟩
 have S:=ZL (R:=bP) w (.s a l.length cap) l 53 (J.below (aH _ _));have D:=J.below (aH w (.cells #[.s a l.length cap] 53));have ab:l.length+4<=maxLen:=by unfold maxLen; omega
 have ac:(l.length+4)*1<=140737488355328:=Z
 go_enter func32,ntmps32
 go_wp2_with fail
 refine(crc32 _ _ _ S).mono ?_;rintro e w' ⟨rfl,rfl⟩;rw[aal];go_wp2_with fail
 refine(Yo _ _ _ D Z).mono ?_;rintro e w2 ⟨v2,rfl,S,J⟩;have aa:Below w.heap.size w w2:=(aH _ _).trans (J.mono Y);generalize hx:gq.update 0 l=x;have HX:=aC8 hx;clear hx;have hr:=ai2 x w2 5;have D:=(bF S (show w.heap.size<=_ by simp)).alloc (.cells #[.u ((x.toNat:Int)%256),.u ((x.toNat:Int)/256%256),.u ((x.toNat:Int)/65536%256),.u ((x.toNat:Int)/16777216%256)] 5);have ae:w.heap.size<=w2.heap.size:=by have:=J.size; simp at this; omega
 have J:w.heap.size<=(w2.alloc (.cells #[.u ((x.toNat:Int)%256),.u ((x.toNat:Int)/256%256),.u ((x.toNat:Int)/65536%256),.u ((x.toNat:Int)/16777216%256)] 5)).heap.size:=by simp; omega
 clear S;go_wp2_with (at_builtin; refine bV I _ _ _ I AA w.heap.size D I hr I ab ac J ?_; intro v' w' D S)
 go_ret
 refine⟨_,I,by rw[HX.out]; simpa[gq.le4]using D,(aa.alloc ae _).grown S J ?_⟩;exact λk hk=>(World.ownsRow.lt ‹_› k hk).1
abbrev Ux{c y:UInt8}{z:Int}(D:z=(y.toNat:Int)):((c.toNat:Int) != z)=(c != y):=by
 subst D;rw[aEI,bne_iff_ne,bne_iff_ne];constructor
 .intro h e; exact h (by rw[e])
 intro h e; exact h (aFA.1 Z)
abbrev akO(x:UInt32):(x.toNat:Int)%(256:Int)=(x.toUInt8.toNat:Int):=wY x
abbrev akP(x:UInt32):(x.toNat:Int)/(256:Int)%(256:Int)=((x>>>8).toUInt8.toNat:Int):=by rw[aeb,wY]
abbrev akQ(x:UInt32):(x.toNat:Int)/(65536:Int)%(256:Int)=((x>>>16).toUInt8.toNat:Int):=by rw[aam,wY]
abbrev akR(x:UInt32):(x.toNat:Int)/(16777216:Int)%(256:Int)=((x>>>24).toUInt8.toNat:Int):=by rw[aan,wY]
abbrev four(l:List UInt8)(m:Nat)(h:l.length=m+4):∃c0 c1 c2 c3,l.drop m=[c0,c1,c2,c3]:=by
 have e:(l.drop m).length=4:=by simp; omega
 match l.drop m,e with
 | [c0,c1,c2,c3],_=>exact⟨c0,c1,c2,c3,I⟩
def acf(c0 c1 c2 c3:UInt8)(x:UInt32)(k:Nat):Prop:=[c0,c1,c2,c3].take k=(gq.le4 x).take k
abbrev Qz(v:aaT)(l:List UInt8)(w:VO)(D:bP w v l)(h:l.length<4) :
  abB prog 43 #[v] w λe w'=>e = .R (.tuple #[.sn,.i 4])∧w=w':=by
 obtain⟨a,cap,rfl⟩:∃a cap,v = .s a l.length cap:=by obtain⟨a,cap,h,_⟩:=D; exact⟨a,cap,h⟩
 clear D;go_enter func43,ntmps43
 go_wp2
 go_ret2
 exact⟨I,I⟩
abbrev Uy(v:aaT)(l:List UInt8)(m:Nat)(w:VO)(hv:bP w v l)(D:l.length=m+4)(J:m<=100000000000) :
  abB prog 43 #[v] w λe w'=>∃J k,e = .R (.tuple #[J,.i k])∧Below w.heap.size w w' ∧
   (l.drop m=gq.le4 (gq.update 0 (l.take m))->k=0∧bP w' J (l.take m))∧(l.drop m≠gq.le4 (gq.update 0 (l.take m))->k=19∧J = .sn):=by
 obtain⟨a,cap,rfl,J,S⟩:=hv;rcases S with ⟨rfl,_⟩ | ⟨b,o,rfl,hb,ab,hc⟩
 .simp at D
 have S:=ad9 (n:=m) hb ab J Z hc;have J:=ZL (R:=bP) w (.s (some ⟨b,o,none⟩) m cap) (l.take m) 53 (S.below (aH _ _));have aa:=S.below (aH w (.cells #[.s (some ⟨b,o,none⟩) m cap] 53));have ac:m<=cap:=Z
 have ae:¬m=cap:=Z
 have af:m<cap:=Z
 go_enter func43,ntmps43
 go_wp2_with fail
 refine(crc32 _ _ _ J).mono ?_;rintro e w' ⟨rfl,rfl⟩;rw[aal];go_wp2_with fail
 generalize hx:gq.update 0 (l.take m)=x;have J:=aC8 hx;clear hx S;obtain⟨c0,c1,c2,c3,hd⟩:=four l m D;have D:∀k (h:k<4),(w.alloc (.cells #[.s (some ⟨b,o,none⟩) m cap] 53)).cell? ⟨b,o+m+k,none⟩=some (iy ([c0,c1,c2,c3][k])):=by
  intro k hk;rw[World.cell?_alloc_past _ _ _ hb,aE4,hc (m+k) Z];simp only[<-hd];rw[List.getElem_drop]
 have S:=aC8 D;have HD:=aC8 hd;clear D hc hd;go_loop [22] (λi=>∃k:Nat,k<=4∧i = .i k∧acf c0 c1 c2 c3 x k) (λi=>4-(intOf i).toNat)
 case atStart=>exact⟨0,Z,I,I⟩
 case round =>
  obtain⟨k,hk,rfl,D⟩:=hrel;have HE:=aC8 D;clear D;have D:k=0∨k=1∨k=2∨k=3∨k=4:=Z
  rcases D with rfl | rfl | rfl | rfl | rfl
  .have hck:=S.out 0 Z;simp only[aFe,aFV]at hck;go_wp2
   .have h := ‹((c0.toNat:Int) != _)=true›;rw[Ux (akO x)]at h;go_ret2
    exact⟨_,_,I,aH _ _,λe=>by rw[HD.out,J.out]at e; simp[gq.le4]at e; simp[e]at h,λ_=>⟨I,I⟩⟩
   have h := ‹((c0.toNat:Int) != _)=false›;rw[Ux (akO x)]at h;go_round
   case rel=>exact⟨1,Z,I,by simp[acf,gq.le4]at h |-; exact h⟩
   case measure=>simp[intOf]
  .have hck:=S.out 1 Z;simp only[aFV,List.getElem_cons_succ]at hck;go_wp2
   .have h := ‹((c1.toNat:Int) != _)=true›;rw[Ux (akP x)]at h;go_ret2
    exact⟨_,_,I,aH _ _,λe=>by rw[HD.out,J.out]at e; simp[gq.le4]at e; simp[e]at h,λ_=>⟨I,I⟩⟩
   have h := ‹((c1.toNat:Int) != _)=false›;rw[Ux (akP x)]at h;go_round
   case rel=>exact⟨2,Z,I,by have:=HE.out; simp[acf,gq.le4]at h this |-; exact⟨this,h⟩⟩
   case measure=>simp[intOf]
  .have hck:=S.out 2 Z;simp only[aFV,List.getElem_cons_succ]at hck;go_wp2
   .have h := ‹((c2.toNat:Int) != _)=true›;rw[Ux (akQ x)]at h;go_ret2
    exact⟨_,_,I,aH _ _,λe=>by rw[HD.out,J.out]at e; simp[gq.le4]at e; simp[e]at h,λ_=>⟨I,I⟩⟩
   have h := ‹((c2.toNat:Int) != _)=false›;rw[Ux (akQ x)]at h;go_round
   case rel=>exact⟨3,Z,I,by have:=HE.out; simp[acf,gq.le4]at h this |-; exact⟨this.1,this.2,h⟩⟩
   case measure=>simp[intOf]
  .have hck:=S.out 3 Z;simp only[aFV,List.getElem_cons_succ]at hck;go_wp2
   .have h := ‹((c3.toNat:Int) != _)=true›;rw[Ux (akR x)]at h;go_ret2
    exact⟨_,_,I,aH _ _,λe=>by rw[HD.out,J.out]at e; simp[gq.le4]at e; simp[e]at h,λ_=>⟨I,I⟩⟩
   have h := ‹((c3.toNat:Int) != _)=false›;rw[Ux (akR x)]at h;go_round
   case rel=>exact⟨4,Z,I,by have:=HE.out; simp[acf,gq.le4]at h this |-; exact⟨this.1,this.2.1,this.2.2,h⟩⟩
   case measure=>simp[intOf]
  have e:l.drop m=gq.le4 (gq.update 0 (l.take m)):=by
   rw[HD.out,J.out]; have:=HE.out; simpa[acf,gq.le4]using this
  have HF:=aC8 e;clear e;go_wp2_with fail
  refine(Yo _ _ _ aa (by simp; omega)).mono ?_;rintro e J ⟨v2,rfl,D,S⟩;have J:=bD D;clear D;go_wp2_with fail
  go_ret2
  exact⟨_,_,I,(aH _ _).trans (S.mono Y),λ_=>⟨I,J⟩,λh=>(h HF.out).elim⟩
end
section
open Go.RowKit Na Nb En Go.Sx
variable{α:Type}{K:Nat}
def dZ(L:List Int):List UInt8:=L.flatMap λx=>En.dY 10 (En.zig x)
variable{p er k b cap:Nat}{bad:Bool}{x:Int}{v:aaT}
abbrev acg{L:List Int}(hk:k<L.length)(D:L[k]=x):dZ (L.take (k+1))=dZ (L.take k)++En.dY 10 (En.zig x):=by
 unfold dZ;rw[aEj hk,D,aED]; simp
abbrev iQ(L:List Int):(dZ L).length<=10*L.length:=by
 induction L with
 | nil=>simp[dZ]
 | cons x L ih=>unfold dZ at *; rw[aEn,aDg,aDU]; have:=En.iP 10 (En.zig x); omega
abbrev afI (w:VO)(v:aaT)(L:List Int):Prop:=aI 1 (λx:Int=>[.i x]) w v L
abbrev jc{w:VO}{L:List Int}(h:afI w v L)(J:∀x∈L,I64 x)(hn:L.length<=1000000) :
  abB prog 53 #[v] w λe w'=>∃D,e = .R D∧OwnB w.heap.size w' D (dZ L)∧Ext w w':=by
 obtain⟨a,cap,rfl⟩:=h.shape;have D:L.length<=9223372036854775807:=h.len;refine aCG func53 ntmps53 (λS=>?_);have R:=aDV S;have R:=Ur R;refine aCZ S (ι:=Nat×aaT) (λp D w'=>p.1<=L.length∧(True)∧Sx.Rw w w' [] [⟨5,1,p.2,(dZ (L.take p.1)).length,(dZ (L.take p.1)).map iy⟩]∧Sx.St w D w' 18 [(0,.s a L.length cap),(2,.sn),(3,p.2),(6,.s a L.length cap),(7,.i L.length),(8,.i p.1)] [] []) (λp=>L.length-p.1) (0,(.sn)) (λS=>⟨aDl _,G,R,S.sn⟩) ?_;rintro⟨k,v⟩ ac u gJ dW hI;try dsimp only at hI
 obtain⟨hk,D,R,S⟩:=hI;refine aC0 S λS=>aCD S (decide ((k:Int)<(L.length:Int))) (λmJ S=>?_) (λmJ S=>?_)
 .have uy:k<L.length:=by have:=aDw mJ; omega
  obtain⟨b10,ag,rfl,D,BI,wP,QA⟩:=aDN h (λ_=>I) (k) uy;have S:=S.view0 wP QA;refine adr S 5 [] [.idx k L.length,.M 0 0] (hk:=⟨uy,G⟩) λS=>aC1 S (Aj D _ (J D (by rw[<-BI]; exact aDI _)).1 (J D (by rw[<-BI]; exact aDI _)).2) (λab u J AZ S=>?_);have aa:=iQ (L.take k);rw[aD4]at aa;have af:(En.dY 10 (En.zig D)).length<=10:=En.iP 10 _;obtain⟨R,ah⟩:=R.bH S (aDx AZ);refine aCO S λS=>aDf S R 0 15 I AA (jY (J)) (by show(dZ (L.take k)).length+(En.dY 10 (En.zig D)).length<=9223372036854775807; omega) (by show((dZ (L.take k)).length+(En.dY 10 (En.zig D)).length)*1<=140737488355328; omega) λac u J ae R S=>aCW S λS=>adr S 3 [] [.re 16 (.i (IntKind.i64.wrap ((k:Int)+1))) (.i (k+1:Nat))] (hk:=⟨aCS Z,G⟩) λS=>aCY S gJ (λS=>?_);exact dW _ _ ((k+1),J) ⟨Z,G,R.as (show [(⟨5,1,J,((dZ (L.take k)).length+(En.dY 10 (En.zig D)).length),((dZ (L.take k)).map iy++(En.dY 10 (En.zig D)).map iy)⟩:Sx.Row)]=[⟨5,1,J,(dZ (L.take (k+1))).length,(dZ (L.take (k+1))).map iy⟩] by rw[acg uy BI]; simp),S.sn⟩ (by show _-_<_-_; omega)
 refine aCB S v (λS=>?_);exact⟨_,I,by have:=R.own _ aDq; rw[aDG (by have:=aDA mJ; omega)]at this; exact this,S.E⟩
abbrev vM{w:VO}{p:bJ} :
  abB prog 54 #[.agg p.cells.toArray] w λe w'=>∃v,e = .R v∧OwnB w.heap.size w' v (Px.pb p)∧Ext w w':=by
 skip;refine aCG func54 ntmps54 λS=>aCJ S p.cells (λu b2 J D S=>?_);have R:=aDV S;refine adr S 9 [] [.M 0 0,.M 0 1,.M 0 2,.M 0 3] λS=>aCO S λS=>Sx.newRow S R 11 4 5 1 p.cells λJ u D E7 X8 R S=>aCW S λS=>aCB S D (λS=>?_);exact⟨_,I,R.own _ aDq,S.E⟩
abbrev Yp{l:List UInt8}{p:Nat}(D:p<=l.length):(yV l (p:Int)).2.1<=l.length:=by
 cases h:yV l (p:Int)with
 | mk k r =>
  obtain⟨x,er⟩:=r;by_cases he:er=0
  .subst he; obtain⟨c,-,-,J,-⟩:=Px.ok1 D h; exact J
  rw[Px.Ym D]at h;split at h
  .simp only[aDm]at h; omega
  simp only[aDm]at h; show x<=_; omega
def riB(l:List UInt8)(p:Nat)(bad:Bool):Bool:=bad||(vat l (p:Int)).2.2 != 0
def riP(l:List UInt8)(p:Nat)(bad:Bool):Nat:=if riB l p bad=true then p else (vat l (p:Int)).2.1
def riV(l:List UInt8)(p:Nat)(bad:Bool):Int:=if riB l p bad=true then 0 else (vat l (p:Int)).1
abbrev amM{l:List UInt8}(D:p<=l.length):riP l p bad<=l.length:=by
 unfold riP; split
 .exact D
 exact Yp D
abbrev afJ{l:List UInt8}{p:Nat}:I64 (vat l (p:Int)).1:=by
 have:=afc (n:=(yV l (p:Int)).1) (Yd l p);exact this
abbrev amN{l:List UInt8}{nx:Nat}(D:vat l (p:Int)=(x,nx,er))(h:(bad || !decide ((er:Int)=0))=true):riB l p bad=true∧riP l p bad=p∧riV l p bad=0:=by
 have:riB l p bad=true:=by
  unfold riB; rw[D];cases bad
  .simp at h |-; omega
  rfl
 unfold riP riV; rw[aDb this,aDb this]; exact⟨this,I,I⟩
abbrev akS{l:List UInt8}{nx:Nat}(D:vat l (p:Int)=(x,nx,er))(h:(bad || !decide ((er:Int)=0))=false):bad=false∧riB l p bad=false∧riP l p bad=nx∧riV l p bad=x:=by
 have:bad=false∧riB l p bad=false:=by
  unfold riB; rw[D];cases bad
  .simp at h |-; omega
  simp at h
 unfold riP riV; rw[this.2,D]; exact⟨this.1,I,by simp,by simp⟩
def rcB(l:List UInt8)(p:Nat)(bad:Bool):Bool:=bad||((yV l (p:Int)).2.2 != 0||decide (l.length-(yV l (p:Int)).2.1<(yV l (p:Int)).1))
def rcP(l:List UInt8)(p:Nat)(bad:Bool):Nat:=if rcB l p bad=true then p else (yV l (p:Int)).2.1
def rcV(l:List UInt8)(p:Nat)(bad:Bool):Nat:=if rcB l p bad=true then 0 else (yV l (p:Int)).1
abbrev amO{l:List UInt8}(D:p<=l.length):rcP l p bad<=l.length:=by
 unfold rcP; split
 .exact D
 exact Yp D
abbrev amP{l:List UInt8}:rcV l p bad<=l.length:=by
 unfold rcV; split
 .omega
 rename_i h; unfold rcB at h; simp at h; omega
abbrev amQ{l:List UInt8}{nx:Nat}(D:yV l (p:Int)=(k,nx,er))(h:¬(bad=false∧er=0∧k<=l.length-nx)):rcB l p bad=true∧rcP l p bad=p∧rcV l p bad=0:=by
 have:rcB l p bad=true:=by
  unfold rcB; rw[D];cases bad
  .simp at h |-; omega
  rfl
 unfold rcP rcV; rw[aDb this,aDb this]; exact⟨this,I,I⟩
abbrev akT{l:List UInt8}{nx:Nat}(D:yV l (p:Int)=(k,nx,er))(h:bad=false∧er=0∧k<=l.length-nx):rcB l p bad=false∧rcP l p bad=nx∧rcV l p bad=k:=by
 have:rcB l p bad=false:=by
  unfold rcB; rw[D];obtain⟨rfl,rfl,h⟩:=h;simp; omega
 unfold rcP rcV; rw[this,D]; exact⟨I,by simp,by simp⟩
abbrev lS(v u:aaT)(l m:List UInt8)(w:VO)(D:bP w v l)(J:bP w u m) :
  abB prog 50 #[v,u] w λe w'=>e = .R (.b (l==m))∧w=w':=by
 have s1:=wX (P:=prog) (src:=53) (e:=5) (dst:=9) underlying53 underlying5 underlying9 D;have s2:=wX (P:=prog) (src:=53) (e:=5) (dst:=9) underlying53 underlying5 underlying9 J;clear D J;go_enter func50,ntmps50
 go_wp2_with fail
 go_ret
 exact⟨I,I⟩
abbrev ach{w0 w:VO}{a:Option Addr}{pk:Bool}{l:List UInt8}(D:Ext w0 w)(J:Bx w b #[.s a l.length cap,.i p,.b bad,.b pk])(hb:w0.heap.size<=b)(h:jO w0 (.s a l.length cap) l)(hp:p<=l.length) :
  abB prog 77 #[.q b 0] w λe w'=>e = .R (.i (riV l p bad))∧Ext w0 w'∧Ch b w w'∧Bx w' b #[.s a l.length cap,.i (riP l p bad:Nat),.b (riB l p bad),.b pk]:=by
 skip;refine AO func77 ntmps77 D J hb λac S=>aCE λ_ D=>apB S 1 [] [(2,.i 0)] λS=>aCC<|D _ _<|aDs (λ_ Wx=>?_);obtain⟨J,nx,er,hu⟩:∃J nx er,vat l (p:Int)=(J,nx,er):=⟨_,_,_,I⟩;have D:I64 J:=by have:=@afJ l p; rw[hu]at this; exact this
 refine aDj S 15 [.M 0 0,.M 0 1] [(_,_,true,.tuple #[.i J,.i nx,.i er])] [(3,.i J),(4,.i nx),(18,.i er)] ⟨λu hC g=>(by have D:=Yf (.s a l.length cap) l (p:Int) _ (eX (aI.below h (K00 S.E hC))); rw[hu]at D; exact D),G⟩ λac u E3 S=>apB S 1 [] [(5,.i er)] λS=>aCC<|Wx _ _<|aDs λ_ κ4=>aCE λ_ D=>apB S 8 [.M 0 2] [(26,.b (bad||(((er:Int)) != 0)))] λS=>aCC (D _ _ ?_);refine aCX S (λD=>?_) (λD=>?_)
 .refine aCE λ_ Xg=>apB S 3 [] [(29,.q b 2)] λS=>aDh S 0 (off:=2) (v := .b true) I (λu C8 S=>?_);have ab:=(aK ((Ch.trans (Ch.refl b w) (Ch.aT E3))) C8 (by first | exact .inl I | exact .inr Z));refine aCC<|Xg _ _<|aCE λ_ xu=>apB S 1 [] [(2,.i 0)] λS=>aCC<|xu _ _<|aD6 ?_;have hq:(bad || !decide ((er:Int)=0))=true:=by cases bad<;>simp at D |- <;> omega
  obtain⟨q1,q2,q3⟩:=amN hu hq;refine vN S results77 ?_;exact⟨by rw[q3],S.E,ab,by rw[q1,q2]; have:=S.bx 0; exact this⟩
 refine aDM<|κ4 _ _<|aCE λ_ Qy=>apB S 4 [] [(31,.i nx),(33,.q b 1)] λS=>aDh S 0 (off:=1) (v := .i nx) I (λu aa S=>?_);have ae:=(aK ((Ch.trans (Ch.refl b w) (Ch.aT E3))) aa (by first | exact .inl I | exact .inr Z));refine aCC<|Qy _ _<|aCE λ_ wL=>apB S 2 [] [(2,.i J)] λS=>aCC<|wL _ _<|aD6 ?_;have hq:(bad || !decide ((er:Int)=0))=false:=by cases bad<;>simp at D |- <;> omega
 obtain⟨q0,q1,q2,q3⟩:=akS hu hq;refine vN S results77 ?_;exact⟨by rw[q3],S.E,ae,by rw[q1,q2]; have:=S.bx 0; rw[q0]at this; exact this⟩
abbrev Uz{w0 w:VO}{a:Option Addr}{pk:Bool}{l:List UInt8}(J:Ext w0 w)(hx:Bx w b #[.s a l.length cap,.i p,.b bad,.b pk])(hb:w0.heap.size<=b)(h:jO w0 (.s a l.length cap) l)(hp:p<=l.length) :
  abB prog 80 #[.q b 0] w λe w'=>e = .R (.i (rcV l p bad:Nat))∧Ext w0 w'∧Ch b w w'∧Bx w' b #[.s a l.length cap,.i (rcP l p bad:Nat),.b (rcB l p bad),.b pk]:=by
 have D:l.length<=9223372036854775807:=h.len;refine AO func80 ntmps80 J hx hb λac S=>aCE λ_ D=>apB S 1 [] [(2,.i 0)] λS=>aCC<|D _ _<|aDs (λ_ Wx=>?_);obtain⟨D,nx,er,hu⟩:∃D nx er,yV l (p:Int)=(D,nx,er):=⟨_,_,_,I⟩;have J:nx<=l.length:=by have:=@Yp l p hp; rw[hu]at this; exact this
 have J:D<18446744073709551616:=by have:=Yd l (p:Int); rw[hu]at this; exact this
 refine aDj S 15 [.M 0 0,.M 0 1] [(_,_,true,.tuple #[.int .u64 (D:Int),.i nx,.i er])] [(3,.int .u64 (D:Int)),(4,.i nx),(18,.i er)] ⟨λu hC g=>(by have J:=yc (.s a l.length cap) l (p:Int) _ (eX (aI.below h (K00 S.E hC))); rw[hu]at J; exact J),G⟩ λac u E3 S=>apB S 1 [] [(5,.i er)] λS=>aCC<|Wx _ _<|aDs λ_ κ4=>aCE λ_ J=>apB S 20 [.M 0 2,.M 0 0,.re 35 (.i (IntKind.i64.wrap ((l.length:Int)-(nx:Int)))) (.i (l.length-nx:Nat)),.re 36 (.int .u64 (IntKind.u64.wrap ((l.length-nx:Nat):Int))) (.int .u64 ((l.length-nx:Nat):Int))] [(38,.b ((bad||(((er:Int)) != 0))||(decide (((l.length-nx:Nat):Int)<(D:Int)))))] (hk:=⟨(qj Z Z),(wrap_u64 Z),G⟩) λS=>aCC (J _ _ ?_);refine aCX S (λJ=>?_) (λJ=>?_)
 .refine aCE λ_ Xg=>apB S 3 [] [(41,.q b 2)] λS=>aDh S 0 (off:=2) (v := .b true) I (λu C8 S=>?_);have aa:=(aK ((Ch.trans (Ch.refl b w) (Ch.aT E3))) C8 (by first | exact .inl I | exact .inr Z));refine aCC<|Xg _ _<|aCE λ_ xu=>apB S 1 [] [(2,.i 0)] λS=>aCC<|xu _ _<|aD6 ?_;have hq:¬(bad=false∧er=0∧D<=l.length-nx):=by rintro⟨h1,h2,h3⟩; rw[h1]at J; simp at J<;>omega
  obtain⟨q1,q2,q3⟩:=amQ hu hq;refine vN S results80 ?_;exact⟨by rw[q3]<;>rfl,S.E,aa,by rw[q1,q2]; have:=S.bx 0; exact this⟩
 refine aDM<|κ4 _ _<|aCE (λ_ Qy=>?_);have hq:bad=false∧er=0∧D<=l.length-nx:=by cases bad<;>simp at J |- <;> omega
 refine apB S 4 [] [(43,.i nx),(45,.q b 1)] λS=>aDh S 0 (off:=1) (v := .i nx) I (λu J S=>?_);have ab:=(aK ((Ch.trans (Ch.refl b w) (Ch.aT E3))) J (by first | exact .inl I | exact .inr Z));refine aCC<|Qy _ _<|aCE λ_ J=>apB S 3 [.re 47 (.i (IntKind.i64.wrap (D:Int))) (.i D)] [(2,.i D)] (hk:=⟨(qj I Z),G⟩) λS=>aCC<|J _ _<|aD6 ?_;obtain⟨q1,q2,q3⟩:=akT hu hq;refine vN S results80 ?_;exact⟨by rw[q3]<;>rfl,S.E,ab,by rw[q1,q2]; have:=S.bx 0; rw[hq.1]at this; exact this⟩
abbrev MJ{w:VO}{D:aaT}{l m:List UInt8}(h:jO w v l)(h':jO w D m) :
  abB prog 114 #[v,D] w (VH w (.b (decide (m.length<=l.length)&&(l.take m.length==m)))):=by
 obtain⟨a,cap,rfl⟩:=h.shape;obtain⟨d,cap',rfl⟩:=h'.shape;refine aDi func114 ntmps114 λJ S=>aCE λ_ gJ=>apB S 1 [] [(4,.z)] λS=>aCC<|gJ _ _<|aCE (λ_ D=>?_);by_cases hq:m.length<=l.length
 .have hcap:=iG h;refine apB S 11 [.re 9 (.b ((m.length:Int)<=(l.length:Int))) (.b true),.slc 0 m.length cap cap] [(10,.b true),(14,.s (pY a 0 cap 1) m.length cap),(15,.s d m.length cap')] (hk:=⟨(aDc Value.b (aEy Z)),Z,G⟩) λS=>Yq S (some 16) (aC3 (lS _ _ (l.take m.length) m _ (eX (aI.below (oU h (l:=0) (h':=m.length) (m:=cap) Z hq Z Z) S.E)) (eX (aI.below h' S.E)))) ?_;rintro e u ⟨rfl,E3⟩;refine⟨_,I,E3,λJ S=>?_⟩;refine apB S 2 [] [(4,.b (l.take m.length==m))] λS=>aCC<|D _ _<|RY S results114 ?_;exact⟨aDc (λb=>Ending.returned (Value.b b)) (by rw[aEy hq,aEv]),S.E⟩
 refine apB S 14 [.re 9 (.b ((m.length:Int)<=(l.length:Int))) (.z),.dead 11 (.z),.dead 12 (.z),.dead 13 (.z),.dead 14 (.z),.dead 15 (.z),.dead 16 (.z)] [(4,.z)] (hk:=⟨(aDc Value.b (aER Z)),G⟩) λS=>aCC<|D _ _<|RY S results114 ?_;exact⟨aDc (λb=>Ending.returned (Value.b b)) (by rw[aER hq,aEK]),S.E⟩
end
end Go.Proofs.Vy
section
namespace Go.Proofs.Vy
open Go.RowKit En Na Nb En Go.Sx
variable{α:Type}
abbrev QB(v:aaT)(l:List UInt8)(w:VO)(hv:bP w v l) :
    abB prog 260 #[v,.u 0] w λe w'=>∃D,e = .R D∧bP w D (au (Nb.val l))∧w=w':=by
 have D:=aC8 hv;obtain⟨a,cap,rfl,J,S⟩:=hv;have hl:=rQ J S;have ac:l.length<=cap:=by
  rcases S with ⟨rfl,_⟩ | ⟨_,_,_,_,h,_⟩
  .simp
  exact h
 have HA:=aC8 S;clear S;unfold maxLen at J;go_enter func260,ntmps260
 go_wp2
 go_loop [0] (λi=>∃k:Nat,i = .s a k cap∧k<=l.length∧Hid (Nb.val (l.take k)=Nb.val l)) (λi=>match i with | .s _ k _=>k | _=>0)
 case atStart=>exact⟨l.length,I,aDd _,by show _=_; rw[aEc]⟩
 case round =>
  obtain⟨k,rfl,hk,HV⟩:=hrel;by_cases h0:k=0
  .subst h0;go_wp2
   go_ret
   have S:au (Nb.val l)=l.take 0:=Nb.lV Z HV.out (.inl I);have hr:=GX (cap':=cap) (n:=0) D.out Z Z J (λh=>by
    rcases HA.out with ⟨_,h'⟩ | ⟨_,_,h',_⟩
    .exact h' h
    rw[h]at h'; cases h')
   exact⟨_,I,by rw[S]; exact hr,I⟩
  obtain⟨j,rfl⟩:∃j,k=j+1:=⟨k-1,Z⟩;rcases HA.out with ⟨rfl,_⟩ | ⟨b,o,rfl,hb,af,hc⟩
  .simp at hk
  have ae:=hc j Z;have aa:j<l.length:=Z
  clear hc;by_cases hz:l[j]=0
  .have HE:Hid (Nb.val (l.take j)=Nb.val l):=by show _=_; rw[<-HV.out,Nb.dF l j aa,hz]; simp
   have ab:((l[j].toNat:Int)==0)=true:=by rw[hz]; rfl
   have HZ:=aC8 hz;clear hz;go_wp2
   go_round
   case rel=>exact⟨j,I,Z,HE⟩
   case measure=>simp
  have ab:((l[j].toNat:Int)==0)=false:=by
   rw[aDH]; intro e; exact hz (aFA.1 (by simp; omega))
  have HZ:=aC8 hz;clear hz;go_wp2
  go_ret
  have S:au (Nb.val l)=l.take (j+1):=Nb.lV Z HV.out (.inr ⟨Z,HZ.out⟩);have hr:=GX (cap':=cap) (n:=j+1) D.out Z Z J (λh=>by cases h);exact⟨_,I,by rw[S]; exact hr,I⟩
abbrev afK(v:aaT)(l:List UInt8)(w:VO)(D:bP w v l) :
    abB prog 226 #[v,.string ⟨#[0]⟩] w λe w'=>∃J,e = .R J∧bP w J (au (Nb.val l))∧w=w':=by
 have S:=aC8 D;obtain⟨a,cap,rfl⟩:=D.shape;have HT:=aC8 (QB _ _ _ D);have hl:=D.len;unfold maxLen at hl;clear D;by_cases h0:l.length=0
 .have e:l=[]:=aEA h0;subst e;have D:=S;go_enter func226,ntmps226
  go_wp2_with fail
  go_ret
  exact⟨_,I,S.out,I⟩
 have D:((l.length:Int)==0)=false:=by rw[aDH]; omega
 go_enter func226,ntmps226
 go_wp2_with fail
 refine HT.out.mono ?_;rintro e w' ⟨J,rfl,D,rfl⟩;have J:=aC8 D;clear D HT;go_wp2_with fail
 go_ret
 exact⟨_,I,J.out,I⟩
abbrev afL(n:Nat)(w:VO)(hn:n<=100000000000) :
    abB prog 225 #[.sn,.i n] w λe w'=>∃D,e = .R D∧w'.ownsRow w.heap.size 5 1 D 0 ([].map iy)∧Ext w w':=by
 rcases aD0 n with rfl | h0
 .go_enter func225,ntmps225
  go_wp2_with fail
  go_ret
  exact⟨_,I,aFN _ _ _ _,aDC _ _⟩
 obtain⟨i,S,hz,J,D⟩:=AA.info;have J:=Lib.run_append_nil_zeros (P:=prog) w 53 3 53 5 i (.u 0) .i64 .i64 underlying53 underlying3 S hz n h0 Z Z (by rw[D]; omega);have D:=grownCap_ge w n 0 5;have aa:=grownCap_le_maxLen w n 0 5 (by unfold maxLen; omega);have S:∀k,(Builtin.zeroCells (Value.u 0).cells k).size=k:=λk=>by
  have D:(Value.u 0).cells.size=1:=I;simp[Builtin.zeroCells,D]
 have D:=World.ownsRow_made (base:=w.heap.size) (e:=5) (size:=1) w.drew (Builtin.zeroCells (Value.u 0).cells n++Builtin.zeroCells (Value.u 0).cells (grownCap w n 0 5-n)) (grownCap w n 0 5) (aDd _) aa (by rw[Array.size_append,S,S]; omega);have S:=aC8 D;clear D;go_enter func225,ntmps225
 go_wp2_with (at_builtin; refine Lib.wpList_append_run _ I _ _ _ _ I _ _ I I _ _ J ?_)
 go_ret
 exact⟨_,I,S.out,(below_drewN (aDC _ _) 1).alloc (aDd _) _⟩
def cat(D:List (List UInt8))(k:Nat):List UInt8:=(D.take k).flatten
abbrev DI(D:List (List UInt8))(k:Nat)(hk:k<D.length):cat D (k+1)=cat D k++D[k]:=by
 unfold cat; rw[take_snoc D k hk,List.flatten_append]; simp
abbrev ai3(D:List (List UInt8)):cat D D.length=D.flatten:=by unfold cat; rw[aEc]
abbrev BJ(D:List (List UInt8))(k:Nat):(cat D k).length<=D.flatten.length:=by
 unfold cat;conv=>rhs; rw[<-aEH k D,List.flatten_append,aDg]
 omega
abbrev Yr(v:aaT)(D:List (List UInt8))(w:VO)(hv:yL w v D)(J:D.flatten.length<=1000000000) :
    abB prog 176 #[v] w λe w'=>∃v',e = .R v'∧w'.ownsRow w.heap.size 5 1 v' D.flatten.length (D.flatten.map iy)∧Ext w w':=by
 obtain⟨a,cap,rfl,S,J⟩:=hv;have hl:=ad8 S J;have HA:=aC8 J;clear J;go_enter func176,ntmps176
 go_wp2_with fail
 go_loop [3,11] (λs i=>∃k:Nat,i = .i k∧k<=D.length∧s = .i ((cat D k).length:Nat)) (λ_ i=>D.length-(intOf i).toNat)
 case atStart=>exact⟨0,I,aDl _,I⟩
 case round =>
  obtain⟨k,rfl,hk,rfl⟩:=hrel;have J:=BJ D k;by_cases hlt:k<D.length
  .rcases HA.out with ⟨rfl,_⟩ | ⟨b,o,rfl,hb,hlc,hc⟩
   .simp at hlt
   obtain⟨x,hx,ab⟩:=hc k hlt;obtain⟨S,cx,rfl⟩:=ab.shape;have hf:((cat D (k+1)).length:Int)=((cat D k).length:Int)+((D[k]).length:Int):=by rw[DI D k hlt]; simp
   have S:=BJ D (k+1);have hs:((cat D k).length:Int)+((D[k]).length:Int)<=1000000000:=Z
   have HF:=aC8 hf;clear hc ab hf;go_wp2_with fail
   go_round
   case rel =>
    exact⟨k+1,by go_num,Z,GV HF.out.symm⟩
   case measure=>simp[intOf]; omega
  obtain rfl:k=D.length:=by omega
  have hG:=afL (cat D D.length).length w Z;have HG:=aC8 hG;clear hG J;go_wp2_with fail
  refine HG.out.mono ?_;rintro e w1 ⟨g,rfl,J,hb⟩;have HO:=aC8 J;have HB:=aC8 hb;clear J hb HG;go_wp2_with fail
  go_loopw [6,27] (λg i wr=>∃k:Nat,i = .i k∧k<=D.length∧wr.ownsRow w.heap.size 5 1 g (cat D k).length ((cat D k).map iy)∧Ext w wr) (λ_ i _=>D.length-(intOf i).toNat)
  case atStart=>exact⟨0,I,aDl _,HO.out,HB.out⟩
  case round =>
   obtain⟨k,rfl,hk,aa,J⟩:=hrel;by_cases hlt2:k<D.length
   .rcases HA.out with ⟨h,_⟩ | ⟨b,o,rfl,hb,hlc,hc⟩
    .rw[h]at hlt2; simp at hlt2
    obtain⟨x,hx,ab⟩:=hc k hlt2;have ac:=ab.below J;have ai:wr.cell? ⟨b,o+k,none⟩=some x:=by rw[J.cell (p:=⟨b,o+k,none⟩) hb]; exact hx
    have ae:=ac.raw (λ_=>I);have hf:=DI D k hlt2;have S:=BJ D (k+1);have ag:(cat D k).length+(D[k]).length<=maxLen:=by
     rw[hf,aDg]at S; unfold maxLen; omega
    have ah:((cat D k).length+(D[k]).length)*1<=140737488355328:=by
     rw[hf,aDg]at S; omega
    have af:=J.size;have HF:=aC8 hf;clear hc ab hx hf ac S;go_wp2_with (at_builtin; refine bV I _ _ _ I AA w.heap.size aa I ae I ag ah af ?_; intro v' w' S hg)
    go_roundw
    case rel =>
     refine⟨k+1,by go_num,Z,?_,J.grown hg af (λk hk=>(World.ownsRow.lt aa k hk).1)⟩;rw[HF.out,aDg,aEb]; exact S
    case measure=>simp[intOf]; omega
   obtain rfl:k=D.length:=by omega
   rw[ai3]at aa;go_wp2_with fail
   go_ret
   exact⟨_,I,aa,J⟩
attribute [local go_sem] Go.Rel.Does Go.Rel.Upon Go.Rel.kept Go.Rel.valOf
abbrev oI(v:aaT)(l:List UInt8)(w:VO)(J:bP w v l)(D:l.length<=1000000000) :
    abB prog 29 #[v] w λe w'=>∃D,e = .R D∧w'.ownsRow w.heap.size 5 1 D (gG l).length ((gG l).map iy)∧Ext w w':=by
 have HP:=aC8 (fZ l.length w Z);have S:=aC8 J;obtain⟨a,cap,rfl⟩:=J.shape;clear J;go_enter func29,ntmps29
 go_wp2_with fail
 refine HP.out.mono ?_;rintro e w1 ⟨D,rfl,ho,hb⟩;have D:=(S.out.below hb).raw (λ_=>I);have J:=iP 10 l.length;have S:(dY 10 l.length).length+l.length<=maxLen:=by unfold maxLen; omega
 have aa:((dY 10 l.length).length+l.length)*1<=140737488355328:=Z
 have J:=hb.size;clear HP;go_wp2_with (at_builtin; refine bV I _ _ _ I AA w.heap.size ho I D I S aa J ?_; intro v2 w2 D S)
 go_ret
 refine⟨_,I,?_,hb.grown S J (λk hk=>(World.ownsRow.lt ho k hk).1)⟩;unfold gG;rw[aDg,aEb];exact D
abbrev ai4(d:UInt32):(Nb.le4 d).map iy=[.u ((d.toNat:Int)%256),.u ((d.toNat:Int)/256%256),.u ((d.toNat:Int)/65536%256),.u ((d.toNat:Int)/16777216%256)]:=by
 simp[Nb.le4,iy,UInt32.toNat_shiftRight,Nat.shiftRight_eq_div_pow]
abbrev QC(n:Nat):(au n).length<=4*(Ro n).length:=by
 apply Nb.bK;have h:=Na.dU (Ro n);rw[NP]at h;have e:Nb.B^(4*(Ro n).length)=Hw^(Ro n).length:=by
  rw[Nat.pow_mul]; rfl
 rw[e]; exact h
abbrev N9(neg:Bool)(s:aaT)(l:List UInt32)(w:VO)(J:aG w s l)(D:l.length<=100000000) :
    abB prog 177 #[.agg #[.b neg,s]] w λe w'=>∃v',e = .R v'∧bP w' v' (au (TP l))∧Ext w w':=by
 have D:=aH w (.cells #[.b neg,s] 24);have S:=aC8 (J.below D);obtain⟨a,cap,rfl⟩:=J.shape;have ah:=aC8 D;clear J D;go_enter func177,ntmps177
 go_wp2_with fail
 go_loopw [3,9] (λv i wr=>∃k:Nat,i = .i k∧k<=l.length∧wr.ownsRow (w.heap.size+1) 5 1 v (Nb.bytes (l.take k)).length ((Nb.bytes (l.take k)).map iy)∧Ext (w.alloc (.cells #[.b neg,.s a l.length cap] 24)) wr) (λ_ i _=>l.length-(intOf i).toNat)
 case atStart=>exact⟨0,I,aDl _,aFN _ _ _ _,aDC _ _⟩
 case round =>
  obtain⟨k,rfl,hk,D,J⟩:=hrel;have ae:=abq (l.take k);have af:(l.take k).length=k:=by simp; omega
  have aa:=J.size;simp only[aFR]at aa;by_cases hlt:k<l.length
  .obtain⟨b,o,c,hsv,hb,hlc,hm,hc⟩:=dP S.out I Z;simp only[aDO]at hsv;obtain⟨rfl,-,-⟩:=hsv;have S:wr.cell? ⟨b,o+k,none⟩=some (bC l[k]):=by rw[J.cell (p:=⟨b,o+k,none⟩) hb]; exact hc k hlt
   clear hc;obtain⟨d,hd⟩:∃d,l[k]=d:=⟨_,I⟩;rw[hd]at S;have ag:=Pj wr #[.u ((d.toNat:Int)%256),.u ((d.toNat:Int)/256%256),.u ((d.toNat:Int)/65536%256),.u ((d.toNat:Int)/16777216%256)] 5 4 1 I (by unfold maxLen; omega) (by
    intro u S;simp only[aDp,aFp,or_false]at S;rcases S with rfl | rfl | rfl | rfl<;>rfl)
   have S:=D.alloc (.cells #[.u ((d.toNat:Int)%256),.u ((d.toNat:Int)/256%256),.u ((d.toNat:Int)/65536%256),.u ((d.toNat:Int)/16777216%256)] 5);have ab:w.heap.size+1<=(wr.alloc (.cells #[.u ((d.toNat:Int)%256),.u ((d.toNat:Int)/256%256),.u ((d.toNat:Int)/65536%256),.u ((d.toNat:Int)/16777216%256)] 5)).heap.size:=by simp; omega
   have ai:(Nb.bytes (l.take k)).length+4<=maxLen:=by unfold maxLen; omega
   have al:((Nb.bytes (l.take k)).length+4)*1<=140737488355328:=Z
   have HT:Hid (Nb.bytes (l.take (k+1))=Nb.bytes (l.take k)++Nb.le4 d):=by show _=_; rw[take_snoc l k hlt,hd,Xe]
   have HO:=aC8 D;clear hd D ae af;go_wp2_with (at_builtin; refine bV I _ _ _ I AA (w.heap.size+1) S I ag I ai al ab ?_; intro v' w' ac hg)
   go_roundw
   case rel =>
    refine⟨k+1,by go_num,Z,?_,?_⟩
    .rw[HT.out,aDg,aEb,ai4]; exact ac
    exact(J.alloc (by simpa using aa) _).grown hg (by simpa using ab) (λk hk=>by have:=(World.ownsRow.lt S k hk).1; simpa using this)
   case measure=>simp[intOf]; omega
  obtain rfl:k=l.length:=by omega
  have S:=bD D;have ht:=afK _ _ wr S;rw[aEc,abr]at ht;have HT:=aC8 ht;clear ht D S ae af;go_wp2_with fail
  refine HT.out.mono ?_;rintro e w' ⟨v',rfl,D,rfl⟩;have S:=aC8 D;clear D;go_wp2_with fail
  go_ret
  exact⟨_,I,S.out,K00 ah.out J⟩
end Go.Proofs.Vy
namespace Go.Proofs.Vy
open Go.RowKit En Na Nb En Go.Sx
variable{α:Type}
attribute [local go_sem] Go.Rel.Does Go.Rel.Upon Go.Rel.kept Go.Rel.valOf
def iD(r:Bool×Nat×Nat):List UInt8:=(if r.1 then 1 else 0)::(gG (au r.2.1)++gG (au r.2.2))
abbrev aci{R:VO->aaT->α->Prop}(w:VO)(x y z:aaT)(a b c:α)(e:TypeId)(J:R (w.alloc (.cells #[x,y,z] e)) x a)(S:R (w.alloc (.cells #[x,y,z] e)) y b)(h3:R (w.alloc (.cells #[x,y,z] e)) z c) :
    Ip R (w.alloc (.cells #[x,y,z] e)) (.s (some ⟨w.heap.size,0,none⟩) 3 3) [a,b,c]:=by
 refine⟨_,_,I,by unfold maxLen; omega,.inr ⟨_,_,I,by simp,aDd _,λi D=>?_⟩⟩;rw[aEa,World.cell?_alloc_at _ _ _ _ I];rcases i with _ | _ | _ | i
 .exact⟨x,I,J⟩
 .exact⟨y,I,S⟩
 .exact⟨z,I,h3⟩
 exact absurd D Y
abbrev Yt{w w':VO}{v:aaT}{J:List (List UInt8)}(h:yL w v J)(D:Ext w w'):yL w' v J:=Ip.below (λ_ _ _ _ D h=>h.below D) h D
abbrev aC.parts{base:Nat}{w:VO}{s t:aaT}{n m neg:Bool}{a b:Nat}(h:aC base w (.agg #[.b n,s,.b m,t]) neg a b) :
    aG w s (Ro a)∧aG w t (Ro b)∧From base s∧From base t:=by
 obtain⟨s',t',e,D,J,fs,S⟩:=h;simp only[aE6,aE7,aDP,and_true]at e;obtain⟨-,rfl,-,rfl⟩:=e;exact⟨D,J,fs,S⟩
abbrev wI(n1 S:Bool)(s1 s2:aaT)(l m:List UInt32)(w:VO)(D:aG w s1 l)(h2:aG w s2 m)(J:l.length<=50000000)(aw:m.length<=50000000) :
    abB prog 127 #[.agg #[.b n1,s1,.b S,s2]] w λe w'=>∃v,e = .R v∧w'.ownsRow w.heap.size 5 1 v (iD (nrm n1 S (TP l) (TP m))).length ((iD (nrm n1 S (TP l) (TP m))).map iy)∧Ext w w':=by
 have al:=aao n1 S l m;have J:=aH w (.cells #[.b n1,s1,.b S,s2] 26);have HC:=aC8 (pF n1 S s1 s2 l m _ (D.below J) (h2.below J) Z Z);have am:=aC8 J;obtain⟨a1,c1,rfl⟩:=D.shape;obtain⟨a2,c2,rfl⟩:=h2.shape;generalize nrm n1 S (TP l) (TP m)=r at *;obtain⟨ng,a,b⟩:=r;simp only at al;clear D h2 J;go_enter func127,ntmps127
 go_wp2_with fail
 refine HC.out.mono ?_;rintro e w1 ⟨x,rfl,S,J⟩;obtain⟨b1,d1,b2,d2,rfl⟩:=S.shape;obtain⟨r0,f0,hz⟩:=ji J;have F:=aC8 S;have an:=aC8 (K00 am.out J);clear S J HC;obtain⟨sg,J⟩:∃sg:UInt8,sg=if ng then 1 else 0:=⟨_,I⟩
 obtain⟨nb,S⟩:∃nb:Bool,nb=ng:=⟨_,I⟩;obtain⟨q,hq⟩:∃q,q=iD (nb,a,b):=⟨_,I⟩;have HQ:Hid ([[sg],gG (au a),gG (au b)].flatten=q):=by
  show _=_;rw[hq,J,S]; simp[iD]
 have ab:([[sg],gG (au a),gG (au b)].flatten).length<=1000000000:=by
  have:=QC a;have:=QC b;have:=iP 10 (au a).length;have:=iP 10 (au b).length;simp[gG]; omega
 have ao:=aC8 ab;have MK:=aC8 hq;have ap:=aC8 J;have ac:=aC8 S;clear hq ab;clear J S;have J:=QC a;have J:=QC b;have HP:=aC8 (F.out.parts);clear F;rcases aF6 ng with rfl | rfl;all_goals
  go_wp2_with fail
  generalize hW:World.setCell _ _ _=W
  have ae:Ext w W:=by rw[<-hW]; exact qW an.out (aDd _) _ _ _ _
  have hk:∀w',Ext W w'->w'.cell? ⟨w.heap.size,0,none⟩=some (.b nb)∧w'.cell? ⟨w.heap.size,1,none⟩=some (.s b1 (Ro a).length d1)∧w'.cell? ⟨w.heap.size,2,none⟩=some (.z)∧w'.cell? ⟨w.heap.size,3,none⟩=some (.s b2 (Ro b).length d2):=by
    intro w' S
    have J:w.heap.size<W.heap.size:=by rw[<-hW]; simpa[World.setCell]using hz
    refine⟨?_,?_,?_,?_⟩
    · rw[S.cell (p:=⟨w.heap.size,0,none⟩) J,<-hW,ac.out]; simp[go_sem,r0]
    · rw[S.cell (p:=⟨w.heap.size,1,none⟩) J,<-hW]; simp[go_sem,r0]
    · rw[S.cell (p:=⟨w.heap.size,2,none⟩) J,<-hW]; simp[go_sem,r0]
    · rw[S.cell (p:=⟨w.heap.size,3,none⟩) J,<-hW]; simp[go_sem,r0]
  have HK:=aC8 hk
  have hA:aG W (.s b1 (Ro a).length d1) (Ro a):=by
    rw[<-hW]; exact HP.out.1.ch (((((Ch.refl w.heap.size _).setCell _ _).setCell _ _).setCell _ _).setCell _ _) (λ_=>HP.out.2.2.1.off Y)
  have hB:aG W (.s b2 (Ro b).length d2) (Ro b):=by
    rw[<-hW]; exact HP.out.2.1.ch (((((Ch.refl w.heap.size _).setCell _ _).setCell _ _).setCell _ _).setCell _ _) (λ_=>HP.out.2.2.2.off Y)
  have af:=aC8 (And.intro hA hB)
  have ag:=aC8 ae
  clear hk hW ae hA hB
  refine Go.Rel.wp_region 12 X X Ext (λw'=>Ext W w')
    [Rel.is (iy sg),λv w'=>bP w' v [sg],Rel.is (.q w.heap.size 0),Rel.is (.agg #[.b nb,.s b1 (Ro a).length d1]),
     λv w'=>bP w' v (au a),λv w'=>bP w' v (gG (au a)),Rel.is (.q w.heap.size 2),Rel.is (.agg #[.z,.s b2 (Ro b).length d2]),
     λv w'=>bP w' v (au b),λv w'=>bP w' v (gG (au b)),λv w'=>yL w' v [[sg],gG (au a),gG (au b)],
     λv w'=>OwnB w.heap.size w' v q]
    ?_ ?_ ?_ ⟨?_,?_,?_,?_,?_,?_,?_,?_,?_,?_,?_,?_,G⟩ ?_
  · exact below_drewN (aDC _ _) 1
  · exact λ_ _ h k=>K00 h k
  · exact Rel.Fj.mem ⟨Rel.aB _,λ_ _ _ h k=>k.below h,Rel.aB _,Rel.aB _,λ_ _ _ h k=>k.below h,λ_ _ _ h k=>k.below h,Rel.aB _,Rel.aB _,λ_ _ _ h k=>k.below h,λ_ _ _ h k=>k.below h,
      λ_ _ _ h k=>Yt k h,λ_ _ _ h k=>dB k h,G⟩
  · intro ρ w' S ho J hd
    have h2:ρ (.tmp 3)=iy sg:=(ho 3 I).trans (by rw[ap.out]; rfl)
    simp[go_sem,h2]
    exact⟨K01,I⟩
  · intro ρ w' S ho J hd
    obtain⟨hd1,-⟩:=hd
    have D:ρ (.tmp 9)=_:=hd1 I
    simp[go_sem,D]
    exact⟨aH _ _,Pm _ [sg] _ (by unfold maxLen; simp)⟩
  · intro ρ w' S ho J hd
    have h2:ρ (.tmp 1) = .q w.heap.size 0:=ho 1 I
    simp[go_sem,h2]
    exact⟨K01,I⟩
  · intro ρ w' S ho J hd
    obtain⟨hd1,-⟩:=hd
    have D:ρ (.tmp 11)=_:=hd1 I
    obtain⟨k1,k2,-⟩:=HK.out w' J
    simp[go_sem,D,k1,k2]
    exact⟨K01,I⟩
  · intro ρ w' S ho J hd
    obtain⟨hd1,-⟩:=hd
    have D:ρ (.tmp 12)=_:=hd1 I
    simp[go_sem,D,S.func]
    have hc:=N9 nb _ _ w' (af.out.1.below J) Z
    rw[NP]at hc
    refine hc.mono ?_
    rintro e aa ⟨v,rfl,hr,hb⟩
    exact⟨_,I,hb,hr⟩
  · intro ρ w' S ho J hd
    obtain⟨hd1,-⟩:=hd
    have D:bP w' (ρ (.tmp 13)) _:=hd1 I
    simp[go_sem,S.func]
    refine(oI _ _ w' D Z).mono ?_
    rintro e aa ⟨v,rfl,hr,hb⟩
    exact⟨_,I,hb,bD hr⟩
  · intro ρ w' S ho J hd
    have h2:ρ (.tmp 1) = .q w.heap.size 0:=ho 1 I
    simp[go_sem,h2]
    exact⟨K01,I⟩
  · intro ρ w' S ho J hd
    obtain⟨hd1,-⟩:=hd
    have D:ρ (.tmp 15)=_:=hd1 I
    obtain⟨-,-,k1,k2⟩:=HK.out w' J
    simp[go_sem,D,k1,k2]
    exact⟨K01,I⟩
  · intro ρ w' S ho J hd
    obtain⟨hd1,-⟩:=hd
    have D:ρ (.tmp 16)=_:=hd1 I
    simp[go_sem,D,S.func]
    have hc:=N9 false _ _ w' (af.out.2.below J) Z
    rw[NP]at hc
    refine hc.mono ?_
    rintro e aa ⟨v,rfl,hr,hb⟩
    exact⟨_,I,hb,hr⟩
  · intro ρ w' S ho J hd
    obtain⟨hd1,-⟩:=hd
    have D:bP w' (ρ (.tmp 17)) _:=hd1 I
    simp[go_sem,S.func]
    refine(oI _ _ w' D Z).mono ?_
    rintro e aa ⟨v,rfl,hr,hb⟩
    exact⟨_,I,hb,bD hr⟩
  · intro ρ w' S ho J hd
    obtain⟨hd1,aq,ar,-⟩:=hd
    have D:bP w' (ρ (.tmp 10)) _:=hd1 I
    have h2:bP w' (ρ (.tmp 14)) _:=aq I
    have h3:bP w' (ρ (.tmp 18)) _:=ar I
    obtain⟨x1,y1,e1⟩:=D.shape
    obtain⟨x2,y2,e2⟩:=h2.shape
    obtain⟨x3,y3,e3⟩:=h3.shape
    rw[e1]at D
    rw[e2]at h2
    rw[e3]at h3
    simp[go_sem,e1,e2,e3]
    exact⟨aH _ _,aci w' _ _ _ _ _ _ _ (D.below (aH _ _)) (h2.below (aH _ _)) (h3.below (aH _ _))⟩
  · intro ρ w' S ho J hd
    obtain⟨hd1,-⟩:=hd
    have D:yL w' (ρ (.tmp 19)) _:=hd1 I
    simp[go_sem,S.func]
    refine(Yr _ _ w' D ao.out).mono ?_
    rintro e aa ⟨v,rfl,hr,hb⟩
    refine⟨_,I,hb,?_⟩
    rw[HQ.out]at hr
    exact bF hr (by have:=(K00 ag.out J).size; exact this)
  · intro w' J
    rintro _ rfl v1 D _ rfl _ rfl v4 h4 v5 h5 _ rfl _ rfl v8 h8 v9 h9 S av ah ai
    change aiw _ _ _ (List.drop 12 _) _ _
    simp only[List.drop_succ_cons,aEo]
    have S:Hid (w'.ownsRow w.heap.size 5 1 ah (iD (nb,a,b)).length ((iD (nb,a,b)).map iy)):=by
      have:=MK.out
      rw[<-this]; exact ai
    rw[ac.out]at S
    have HX:=aC8 (K00 ag.out J)
    clear D h4 h5 h8 h9 av ai
    go_wp2_with fail
    go_ret
    exact⟨ah,I,S.out,HX.out⟩
end Go.Proofs.Vy
end
namespace Go.Proofs.Vy
section
open En
variable{α:Type}
abbrev iB (x:Int):List UInt8:=dY 10 (zig x)
def iK(f:α->List UInt8)(l:List α):List UInt8:=dY 10 l.length++l.flatMap f
def lF(s:dM):List UInt8:=dZ [s.verb,s.a.x,s.a.y,s.b.x,s.b.y,s.c.x,s.c.y]
def jG(s:dK):List UInt8:=dZ [s.o]++Px.pb s.c
def sZ(pk:Bool)(m:oN):List UInt8:=dZ [m.w,m.h]++(if pk=true then gG (Px.enc m.l)else m.l.flatMap Px.pb)
def tq(q:Q6):List UInt8:=[q.a,q.b,q.c,q.d,q.e,q.f].flatMap iD
def fG(pk:Bool)(p:jy):List UInt8:=dZ [p.kind]++Px.pb p.color++dZ [p.p0.x,p.p0.y,p.p1.x,p.p1.y,p.bY]++iK jG p.stops++dZ [p.spread]++sZ pk p.img++dZ [p.dD]++tq p.q
def DJ(p:kY):List UInt8:=dZ [p.width,p.join,p.cap,p.fF,p.phase]++iK iB p.dash
def qo(b:Bool):UInt8:=if b=true then 1 else 0
def nV(pk:Bool)(n:aO):List UInt8:=
 if n.kind=1 then [n.dS]++dZ [n.blend]++[qo n.isolated,qo n.dG]
 else if n.kind=2 then iK lF n.path++dZ [n.aW]++iK (fG pk) n.fill++iK (fG pk) n.stroke++(if 0<n.stroke.length then DJ n.style else [])
 else if n.kind=3 then sZ pk n.img++dZ [n.dD]else []
def eY(pk:Bool)(n:aO):List UInt8:=dZ [n.id,n.kind,n.depth]++tq n.q++iK lF n.clip++dZ [n.aS]++nV pk n
def dX(s:aY):List UInt8:=[71,83,49]++dZ [s.w,s.h]++Px.pb s.bg++iK (eY false) s.ns
def Gy(pk:Bool)(e:bI):List UInt8:=dZ [e.kind,e.id,e.index,e.depth]++(if e.kind=1∨e.kind=4 then eY pk e.node else if e.kind=5 then Px.pb e.color else [])
def kT(e:bI):List UInt8:=[71,69,49]++Gy false e
variable{f:α->List UInt8}{N:Nat}
abbrev lu{l:List α}{k:Nat}{x:α}(hk:k<l.length)(D:l[k]=x)(B:List UInt8):B++(l.take k).flatMap f++f x=B++(l.take (k+1)).flatMap f:=by
 rw[aEj hk,D,aED]; simp
abbrev JD{l:List α}{B:List UInt8}(h:(B++l.flatMap f).length<=N)(k:Nat):(B++(l.take k).flatMap f).length<=N:=by
 rw[aDg]at h |-;have:((l.take k).flatMap f).length<=(l.flatMap f).length:=by
  conv=>rhs; rw[<-aEH k l,aED,aDg]
  omega
 omega
abbrev amR{l:List α}(h:(l.flatMap f).length<=N):∀x∈l,(f x).length<=N:=λx D=>by
 obtain⟨s,t,rfl⟩:=List.append_of_mem D;rw[aED,aEn,aDg,aDg]at h;omega
abbrev aap{l:List α}{B:List UInt8}(h:(B++l.flatMap f).length<=N):∀x∈l,(f x).length<=N:=amR (by rw[aDg]at h; omega)
end
section
open En
variable{α:Type}{K:Nat}
variable{p:ak}{s:aA}
abbrev ai5(f:Nat):∀n,0<n->(dY f n).length<=n:=by
 induction f with
 | zero=>intro n h; simp[dY]
 | succ f ih =>
  intro n h;unfold dY;split
  .simp; omega
  have:=ih (n/128) Z;simp only[aDU]; omega
abbrev ai6{R:List (Nat×bJ)}:∀{last:Option bJ},Px.good last R->(Px.rb R).length<=5*(Px.flat R).length:=by
 induction R with
 | nil=>intro _ _; exact aDl _
 | cons z R ih =>
  intro last h;obtain⟨n,p⟩:=z;simp only[Px.good]at h;have:=ih h.2.2;have:=ai5 10 n h.1;simp only[Px.rb,Px.pb,Px.flat,aDg,aDU,aEt,List.length_replicate];omega
abbrev JE(l:List bJ):(Px.enc l).length<=5*l.length:=by
 have h:=Px.Ew l;have:=ai6 h.1;rw[h.2]at this;exact this
theorem Yu{f:α->List UInt8}{M:Nat}:∀{l:List α},(∀x∈l,(f x).length<=M)->(l.flatMap f).length<=l.length*M
 | [],_=>by simp
 | x::l,h=>by
  have D:=h x aDq
  have D:=Yu (l:=l) λy D=>h y (aEs _ D)
  rw[aEn,aDg,aDU,Nat.succ_mul]; omega
abbrev vO{f:α->List UInt8}{M N:Nat}{l:List α}(h:∀x∈l,(f x).length<=M)(hl:l.length<=N):(iK f l).length<=10+N*M:=by
 unfold iK;have D:=Yu h;have D:=iP 10 l.length;have D:=aEM M hl;rw[aDg]; omega
abbrev aaq(s:dM):(lF s).length<=70:=iQ _
abbrev Yv(s:dK):(jG s).length<=14:=by unfold jG; rw[aDg]; have:=iQ [s.o]; simp[Px.pb]at this |-; omega
abbrev aar{pk:Bool}{m:oN}(h:m.l.length<=65536):(sZ pk m).length<=327800:=by
 unfold sZ;have D:=iQ [m.w,m.h];have J:=JE m.l;have J:=Yu (f:=Px.pb) (M:=4) (l:=m.l) λx _=>aDd _;have J:=iP 10 (Px.enc m.l).length;simp only[aDU,aEt]at D;rw[aDg];cases pk
 .simp only[aFG,if_false]; omega
 simp only[if_true,gG,aDg]; omega
abbrev FM{n:Nat}(h:bl n<=256):n<Nb.B^32:=by
 show n<256^32;rw[show(256:Nat)^32=2^256 by rfl];unfold bl at h;split at h
 .omega
 exact aDL Nat.lt_log2_self (aEm O h)
abbrev q_len{q:Bool×Nat×Nat}(h:eU q<=256):(iD q).length<=100:=by
 unfold eU at h;have D:=Nb.bK (FM (n:=q.2.1) Z);have D:=Nb.bK (FM (n:=q.2.2) Z);have D:=iP 10 (Nb.au q.2.1).length;have D:=iP 10 (Nb.au q.2.2).length;simp only[iD,gG,aDU,aDg];omega
abbrev aas{q:Q6}(h:q.valid=true):(tq q).length<=600:=by
 unfold Q6.valid at h;simp only[aDt,aDv]at h;obtain⟨D,J,S,h4,h5,h6⟩:=h;have:=q_len D;have:=q_len J;have:=q_len S;have:=q_len h4;have:=q_len h5;have:=q_len h6;simp only[tq,aEn,List.flatMap_nil,aDg,aEt];omega
abbrev FN{l:List dK}(h:iL l=true):l.length<=16:=by
 unfold iL at h;simp only[aDt,aDv]at h;exact h.2.1
abbrev QD{m:dI}(h:m.valid=true):m.l.length<=65536:=by
 unfold dI.valid dI.size at h;simp only[aDt,aDv,aDu]at h;obtain⟨⟨-,-,D⟩,J,-⟩:=h;omega
abbrev ML{k:Int}(h:p.eq (ak.bare k)=true):p.stops=[]∧p.img.l=[]∧p.img.w=0∧p.img.h=0:=by
 unfold ak.eq dI.eq at h;simp only[aDt,aDv,aDu]at h;refine⟨?_,?_,?_,?_⟩
 .have:p.stops=(ak.bare k).stops:=by simp_all
  exact this
 .have:p.img.l=(ak.bare k).img.l:=by simp_all
  exact this
 .have:p.img.w=(ak.bare k).img.w:=by simp_all
  exact this
 have:p.img.h=(ak.bare k).img.h:=by simp_all
 exact this
def dI.num(m:dI):Prop:=(m.l.length:Int)=m.w*m.h∧m.l.length<=65536∧0<=m.w∧m.w<=4096∧0<=m.h∧m.h<=4096
abbrev DK{m:dI}(h:m.valid=true):m.num:=by
 have hl:=QD h;unfold dI.valid dI.size side at h;simp only[aDt,aDu,aDv]at h;exact⟨h.2.1,hl,Z,Z,Z,Z⟩
abbrev yh{m:dI}(D:m.l=[])(J:m.w=0)(S:m.h=0):m.num:=by
 unfold dI.num; rw[D,J,S]; simp
abbrev uz(h:p.valid=true):p.t.q.valid=true∧p.stops.length<=16∧p.img.num:=by
 unfold ak.valid at h;simp only[cond_eq_ite]at h;split at h
 .cases h
 rename_i J;simp only[aEV,aEG,not_or,Bool.not_eq_false]at J;refine⟨J.1,?_⟩;have D:=ML J.2;unfold ak.without at D;simp only[cond_eq_ite]at D;split at h
 .rename_i J; rw[aDb J]at D; exact⟨by rw[show p.stops=[]from D.1]; simp,yh D.2.1 D.2.2.1 D.2.2.2⟩
 rename_i J;rw[aC9 J]at D;split at h
 .rename_i S;rw[aDb S]at D;split at h
  .cases h
  rename_i J;simp only[aEV,aEG,not_or,Bool.not_eq_false,aDt]at J;exact⟨FN J.2.1,yh D.2.1 D.2.2.1 D.2.2.2⟩
 rename_i S;rw[aC9 S]at D;split at h
 .rename_i S;rw[aDb S]at D;split at h
  .cases h
  rename_i J;simp only[aEV,aEG,not_or,Bool.not_eq_false,aDt]at J;exact⟨FN J.2.1,yh D.2.1 D.2.2.1 D.2.2.2⟩
 rename_i S;rw[aC9 S]at D;split at h
 .rename_i h4;rw[aDb h4]at D;split at h
  .cases h
  rename_i J;simp only[aEV,aEG,not_or,Bool.not_eq_false,aDt]at J;exact⟨by rw[show p.stops=[]from D.1]; simp,DK J.1.1⟩
 cases h
abbrev Oa{pk:Bool}(h:p.valid=true):(fG pk p.key).length<=330000:=by
 obtain⟨D,J,S⟩:=uz h;have a1:=aas (q:=p.key.q) D;have a2:=aar (pk:=pk) (m:=p.key.img) S.2.1;have D:=vO (f:=jG) (l:=p.key.stops) (M:=14) (N:=16) (λx _=>Yv x) J;have D:=iQ [p.key.kind];have J:=iQ [p.key.p0.x,p.key.p0.y,p.key.p1.x,p.key.p1.y,p.key.bY];have S:=iQ [p.key.spread];have a7:=iQ [p.key.dD];simp only[aDU,aEt]at D J S a7;simp only[fG,aDg,Px.pb,aDU,aEt];omega
structure aj.Lim (n:aj):Prop where
 q:n.t.q.valid=true
 clip:n.clip.length<=256
 shape:n.kind=2->n.path.length<=256∧n.fill.length<=1∧n.stroke.length<=1∧(∀p∈n.fill,p.valid=true)∧(∀p∈n.stroke,p.valid=true)∧(0<n.stroke.length->n.style.dash.length<=16)
 img:n.kind=3->n.img.num
 bare:n.bare=true
 sty:n.kind=2->¬0<n.stroke.length->n.style.eq aZ.bare=true
abbrev JF{l:List dM}(h:kK l=true):l.length<=256:=by
 unfold kK iI at h;by_cases h1:256<(l.length:Int)
 .rw[aDb h1]at h; simp at h
 omega
abbrev Yw{l:List (Bool×Int)}(h:badL l=false):∀p∈l,p.1=false:=λp D=>by
 unfold badL at h;cases hb:p.1
 .rfl
 have:=List.any_eq_false.1 h p D; simp[hb]at this
abbrev uD{n:aj}(h:n.checkN=0):n.Lim:=by
 obtain⟨S,D⟩:=xK h;have J:=Yw S;unfold aj.iF at J;simp only[aDp,aFp,or_false,forall_eq_or_imp,forall_eq,aEC]at J;obtain⟨-,-,h3,-,h5,S⟩:=J;simp only[aDX,aEC]at S;refine⟨h3,JF h5,λhk=>?_,λhk=>?_,S.2,λhk J=>?_⟩
 .unfold aj.qR at D;rw[hk]at D;simp only[show((2:Int)==1)=false from rfl,show((2:Int)==2)=true from rfl,cond_false,cond_true]at D;have J:=qY (λp S=>by
   simp only[aj.sS,aDp,aFp,or_false]at S;rcases S with rfl | rfl | rfl | rfl | rfl | rfl<;>simp) D
  unfold aj.sS at J;simp only[aDp,aFp,or_false,forall_eq_or_imp,forall_eq,aEC,aDX,Bool.and_eq_false_iff,aDQ,aDv]at J;obtain⟨g1,-,g3,g4,-,g6⟩:=J;refine⟨JF g1,Z,Z,aDF.1 g6.1,aDF.1 g6.2,λhl=>?_⟩;rcases g4 with g4 | g4
  .omega
  unfold aZ.valid tu at g4;simp only[aDt,aDv]at g4;omega
 .unfold aj.qR at D;rw[hk]at D;simp only[show((3:Int)==1)=false from rfl,show((3:Int)==2)=false from rfl,cond_false]at D;have J:=qY (λp S=>by
   simp only[aDp,aFp,or_false]at S;rcases S with rfl | rfl<;>simp) D
  simp only[aDp,aFp,or_false,forall_eq_or_imp,forall_eq,aEC]at J;exact DK J.1
 unfold aj.qR at D;rw[hk]at D;simp only[show((2:Int)==1)=false from rfl,show((2:Int)==2)=true from rfl,cond_false,cond_true]at D;have J:=qY (λp S=>by
  simp only[aj.sS,aDp,aFp,or_false]at S;rcases S with rfl | rfl | rfl | rfl | rfl | rfl<;>simp) D
 unfold aj.sS at J;simp only[aDp,aFp,or_false,forall_eq_or_imp,forall_eq,aEC,aDX,Bool.and_eq_false_iff,aDQ,aDv]at J;obtain⟨-,-,-,-,D,-⟩:=J;rcases D with D | D
 .omega
 exact D
abbrev UA{pk:Bool}{n:aj}(h:n.Lim):(eY pk n.key).length<=700000:=by
 have a1:=aas (q:=n.key.q) h.q;have a2:=vO (f:=lF) (l:=n.key.clip) (M:=70) (N:=256) (λx _=>aaq x) h.clip;have S:=iQ [n.key.id,n.key.kind,n.key.depth];have a4:=iQ [n.key.aS];have hk:(nV pk n.key).length<=680000:=by
  unfold nV;split
  .have:=iQ [n.key.blend]; simp at this |-; omega
  split
  .rename_i hk;obtain⟨b1,b2,b3,b4,b5,b6⟩:=h.shape hk;have c1:=vO (f:=lF) (l:=n.key.path) (M:=70) (N:=256) (λx _=>aaq x) b1;have c2:=vO (f:=fG pk) (l:=n.key.fill) (M:=330000) (N:=1) (λx D=>by obtain⟨p,J,rfl⟩:=aDJ.1 D; exact Oa (b4 p J)) (by simpa[aj.key]using b2);have c3:=vO (f:=fG pk) (l:=n.key.stroke) (M:=330000) (N:=1) (λx D=>by obtain⟨p,J,rfl⟩:=aDJ.1 D; exact Oa (b5 p J)) (by simpa[aj.key]using b3);have c4:=iQ [n.key.aW];have c5:(if 0<n.key.stroke.length then DJ n.key.style else []).length<=300:=by
    split
    .rename_i hs;have D:=vO (f:=iB) (l:=n.key.style.dash) (M:=10) (N:=16) (λx _=>iP 10 _) (b6 (by simpa[aj.key]using hs));have D:=iQ [n.key.style.width,n.key.style.join,n.key.style.cap,n.key.style.fF,n.key.style.phase];simp only[DJ,aDg,aDU,aEt]at D |-; omega
    simp
   simp only[aDg,aDU,aEt]at c4 |-; omega
  split
  .rename_i hk;have:=aar (pk:=pk) (m:=n.key.img) (h.img hk).2.1;have:=iQ [n.key.dD];simp only[aDg,aDU,aEt]at this |-; omega
  simp
 simp only[eY,aDg,aDU,aEt]at S a4 |-;omega
abbrev aj.Lim.amS{n:aj}(h:n.Lim):(n.kind=3->n.img.l.length<=1000000)∧(n.kind=2->(∀p∈n.fill,p.img.l.length<=1000000)∧∀p∈n.stroke,p.img.l.length<=1000000):=
 ⟨λhk=>by have:=(h.img hk).2; omega,λhk=>⟨λp D=>by have:=(uz ((h.shape hk).2.2.2.1 p D)).2.2.2.1; omega,λp D=>by have:=(uz ((h.shape hk).2.2.2.2.1 p D)).2.2.2.1; omega⟩⟩
abbrev rD(h:s.key.valid=true):s.ns.length<=64∧∀n∈s.ns,n.Lim:=by
 obtain⟨-,D,J⟩:=aY.kU.1 h;refine⟨by simpa[aA.key]using D,λn hn=>uD ?_⟩;rw[<-lg];exact(Bo.1 J).1 _ (aDJ.2 ⟨n,hn,I⟩)
abbrev EI(h:s.key.valid=true):(dX s.key).length<=50000000:=by
 obtain⟨J,S⟩:=rD h;have a1:=vO (f:=eY false) (l:=s.key.ns) (M:=700000) (N:=64) (λx D=>by obtain⟨n,hn,rfl⟩:=aDJ.1 D; exact UA (S n hn)) (by simpa[aA.key]using J);have a2:=iQ [s.key.w,s.key.h];simp only[dX,aDg,aDU,aEt,Px.pb]at a2 |-;omega
end
end Go.Proofs.Vy
section
namespace Go.Sx
open Go.Proofs Go.Proofs.Vy Go.RowKit Go.Rel Na Nb En Go.Sx
section
variable{P:Program}{ops:Array Oper}{Q:Exit->Act->VO->Prop}{w0 w:VO}{a:Act}{os:List Oper}{n:Nat}{l:List (Nat×aaT)}{bl:List (Nat×List aaT)}{vs:List fE}{rs:List Row}
abbrev bR (v:aaT)(B:List UInt8):Row:=⟨5,1,v,B.length,B.map iy⟩
abbrev wQ{v:aaT}{B:List UInt8}(S:St w0 a w n l bl vs)(R:Rw w0 w bl (bR v B::rs))(d:Nat){y:aaT}(D:List UInt8)(hy:dR w 1 y D.length (D.map iy))(hb:(B++D).length<=100000000000)
  (next:∀a' w' J,Stp (Ob bl (bR v B::rs)) w (Ob bl (bR J (B++D)::rs)) w'->Rw w0 w' bl (bR J (B++D)::rs)->St w0 a' w' n ((d,J)::l) bl []->aiw prog ops Q (os.drop 1) a' w')
  (hx:JG os l=some (53,v,y,some d):=by kernel_rfl) (hd:uO n (some d)=true:=by rfl):aiw prog ops Q os a w:=by
 rw[aDg]at hb;refine app S R 0 d I AA hy (by show B.length+D.length<=9223372036854775807; omega) (by show(B.length+D.length)*1<=140737488355328; omega) (λa' w' J A03 R S=>?_) hx hd;have e:(⟨5,1,J,B.length+D.length,B.map iy++D.map iy⟩:Row)=bR J (B++D):=by simp[bR]
 have A03:Stp (Ob bl (bR v B::rs)) w (Ob bl ((⟨5,1,J,B.length+D.length,B.map iy++D.map iy⟩:Row)::rs)) w':=A03;have R:Rw w0 w' bl ((⟨5,1,J,B.length+D.length,B.map iy++D.map iy⟩:Row)::rs):=R;rw[e]at A03 R;exact next a' w' J A03 R S
abbrev Oc(S:St w0 a w n l bl vs){f:FuncId}{args:Array aaT}{R:Ending->VO->Prop}(d:Option Nat)(hc:abB P f args w R)
  (next:∀e w',R e w'->∃V,e = .R V∧Ext w0 w'∧∀J,St w0 J w' n (zL l d V) [] []->aiw P ops Q (os.drop 1) J w') (D:callOf P os l=some (f,args,d):=by kernel_rfl) (hd:uO n d=true:=by rfl):aiw P ops Q os a w:=by
 cases os with
 | nil=>cases D
 | cons o os =>
  unfold callOf at D;simp only at D;split at D
  .rename_i f' args' hg hav hev;simp only[aDe,aDm]at D;obtain⟨rfl,rfl,rfl⟩:=D;simp only[aDX]at hav;have J:(execOp a.eval o).run P w = .ok (.enter f' args') w:=lM (Std.act a) (gX (bZ S.s) o) (p:=[]) I hav.1 (by simpa using hav.2) hev;unfold aiw;rw[aDb (by simp[Region.wanted,hg])];left;unfold Oper.wp;rw[J];simp only[Oper.upon];refine hc.mono λe w' J=>?_;obtain⟨V,rfl,hE,next⟩:=next e w' J;exact next _ ⟨uh S.s hd V,hE,λp J=>(by cases J),List.nodup_nil,λm hm=>by cases hm⟩
  cases D
end
abbrev DL{α:Type}{f:α->List aaT}{k:Nat}{w:VO}{b:Nat}(L:List α)(hf:∀x,(f x).length=k)(D:Bx w b (L.flatMap f).toArray)(hl:L.length<=maxLen):aI k f w (.s (some ⟨b,0,none⟩) L.length L.length) L:=
 ⟨_,_,I,hl,.inr ⟨b,0,I,D.1,aDd _,λi J j S=>by
  have:=D.2.1 (0+i*k+j)
  rw[aEa]at this |-
  rw[this,<-rZ hf L i J j S]; simp⟩⟩
end Go.Sx
namespace Go.Proofs.Vy
open Go.RowKit Na Nb En Go.Sx
variable{base:Nat}{v:aaT}
abbrev vP{L:List Int}{w:VO}(h:iO base (L.map λx => .i x) (some L.length) v w)(hl:L.length<=maxLen):afI w v L:=by
 obtain⟨b,rfl,-,D⟩:=h;exact lW (f:=λx:Int => .i x) L D hl
def rM:List Int->Prop
 | []=>True
 | x::L=>I64 x∧rM L
abbrev rM.all:∀{L:List Int},rM L->∀x∈L,I64 x
 | _::_,h,x,D=>by
  rcases aDp.1 D with rfl | D
  .exact h.1
  .exact rM.all h.2 x D
abbrev lC{w0 w:VO}{B:List UInt8}{bl:List (Nat×List aaT)}(R:Sx.Rw w0 w bl [])(h:OwnB base w v B)(S:∀p∈bl,p.1<base)(h0:w0.heap.size<=base):Sx.Rw w0 w bl [Sx.bR v B]:=
 R.add h (λb D=>by
  simp only[Sx.Ob,List.filterMap_nil,aEk]at D
  obtain⟨p,J,rfl⟩:=aDJ.1 D
  exact S p J) h0
end Go.Proofs.Vy
end
abbrev aC2:=@Go.Sx.wQ
