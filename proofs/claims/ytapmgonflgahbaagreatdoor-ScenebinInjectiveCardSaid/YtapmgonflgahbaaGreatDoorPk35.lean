/- Plain laws of the checksum: bytes and bits, the -/
import Derived.Test.YtapmgonflgahbaaGreatDoorPk34
section
namespace dL
def rQ(c:UInt8):List Bool:=(List.range 8).map fun i=>c.toNat.testBit i
def bits(l:List UInt8):List Bool:=l.flatMap rQ
theorem MJ(c:UInt8):word (rQ c)=c.toUInt32:=by
 have h:∀n,n<256→word (rQ (UInt8.ofNat n))=(UInt8.ofNat n).toUInt32:=by decide +kernel
 have:=h c.toNat c.toNat_lt;simpa using this
theorem Rq(s:UInt32)(c:UInt8):byte s c=feed s (rQ c):=by
 rw[EG _ (by simp[rQ]),MJ]; rfl
theorem JD(l:List UInt8):∀s:UInt32,reg s l=feed s (bits l):=by
 induction l with
 | nil=>intro s; rfl
 | cons c l ih =>
  intro s;show reg (byte s c) l=feed s (rQ c++bits l);rw[ih,tH,Rq]
theorem V6(z:UInt32)(h:z.toNat%2=0):(one z).toNat=z.toNat/2:=by
 have h0:¬z&&&1=1:=by
  intro h1;have:=aic UInt32.toNat h1;rw[aj1]at this;simp[Nat.and_one_is_mod]at this;omega
 unfold one;rw[ah7 h0,ajk];simp[Nat.shiftRight_eq_div_pow]
theorem Rt(n:Nat):∀z y:UInt32,z.toNat=y.toNat*2^n→many n z=y:=by
 induction n with
 | zero=>intro z y h; exact aiS.1 (by show z.toNat=y.toNat; simpa using h)
 | succ n ih =>
  intro z y h;rw[oz n 1];rw[aiE,←aiI]at h;refine ih (one z) y ?_;rw[V6 z (by omega),h];omega
theorem EH(y:UInt32)(h:y.toNat<16777216):many 8 (y<<<8)=y:=by
 apply Rt;rw[akf];simp[Nat.shiftLeft_eq];omega
theorem Y6(x:UInt32):(x>>>8).toNat<16777216:=by
 have:=x.toNat_lt;rw[ajk];simp[Nat.shiftRight_eq_div_pow];omega
theorem Gu(x:UInt32):x.toUInt8.toUInt32^^^((x>>>8)<<<8)=x:=by
 apply aiS.1;have hx:=x.toNat_lt;rw[UInt32.toNat_xor,akf,ajk];have e1:x.toUInt8.toUInt32.toNat=x.toNat%2^8:=by simp
 have e2:(x.toNat>>>8)<<<8%2^32=(x.toNat>>>8)<<<8:=by
  simp[Nat.shiftRight_eq_div_pow,Nat.shiftLeft_eq]; omega
 rw[e1];show x.toNat%2^8^^^(x.toNat>>>8)<<<8%2^32=x.toNat;rw[e2];apply Nat.eq_of_testBit_eq;intro i;rw[Nat.testBit_xor,Nat.testBit_mod_two_pow,Nat.testBit_shiftLeft,Nat.testBit_shiftRight];by_cases h:i<8
 ·simp[h,show ¬8≤i by omega]
 simp[h,show 8≤i by omega,show 8+(i-8)=i by omega]
theorem abU(x:UInt32):x&&&255=x.toUInt8.toUInt32:=by
 apply aiS.1;rw[aj1];simp;exact Nat.and_two_pow_sub_one_eq_mod x.toNat 8
theorem V7(s:UInt32)(c:UInt8):byte s c=many 8 ((s&&&255)^^^c.toUInt32)^^^(s>>>8):=by
 show many 8 (s^^^c.toUInt32)=_;rw[abU];conv=>lhs; rw[←Gu s]
 rw[ajb,UInt32.xor_comm _ c.toUInt32,←ajb,BZ,EH _ (Y6 s)]
theorem abV(c:UInt8)(v:UInt32):(c.toUInt32^^^(v<<<8)).toUInt8=c:=by
 apply UInt8.toBitVec_inj.1;apply BitVec.eq_of_getLsbD_eq;intro i hi;simp[hi]
theorem V8(c:UInt8)(v:UInt32)(h:v.toNat<16777216):(c.toUInt32^^^(v<<<8))>>>8=v:=by
 rw[OL];have e1:c.toUInt32>>>8=0:=by
  apply aiS.1;rw[ajk];have:=c.toNat_lt;simp[Nat.shiftRight_eq_div_pow]; omega
 have e2:(v<<<8)>>>8=v:=by
  apply aiS.1;rw[ajk,akf];simp[Nat.shiftRight_eq_div_pow,Nat.shiftLeft_eq];omega
 rw[e1,e2,UInt32.zero_xor]
def un4(a b c d:UInt8):UInt32:=a.toUInt32^^^((b.toUInt32^^^((c.toUInt32^^^(d.toUInt32<<<8))<<<8))<<<8)
theorem V9(c:UInt8)(v:UInt32)(n:Nat)(h:v.toNat<2^n)(hn:n≤16):(c.toUInt32^^^(v<<<8)).toNat<2^(n+8):=by
 rw[UInt32.toNat_xor];refine Nat.xor_lt_two_pow ?_ ?_
 ·have:=c.toNat_lt;have:(2:Nat)^8≤2^(n+8):=aiV (by omega) (by omega);simp; omega
 rw[akf];refine ajQ (Nat.mod_le _ _) ?_;simp[Nat.shiftLeft_eq,Nat.pow_add]; omega
theorem JE(x:UInt32):(x>>>8)>>>8=x>>>16:=by
 apply aiS.1;simp[UInt32.toNat_shiftRight,Nat.shiftRight_eq_div_pow,Nat.div_div_eq_div_mul]
theorem EI(x:UInt32):(x>>>16)>>>8=x>>>24:=by
 apply aiS.1;simp[UInt32.toNat_shiftRight,Nat.shiftRight_eq_div_pow,Nat.div_div_eq_div_mul]
theorem Ru(x:UInt32):(x>>>24).toUInt8.toUInt32=x>>>24:=by
 apply aiS.1;have:=x.toNat_lt;simp[UInt32.toNat_shiftRight,Nat.shiftRight_eq_div_pow]; omega
theorem Wh(b c d:UInt8):(c.toUInt32^^^(d.toUInt32<<<8)).toNat<2^16∧(b.toUInt32^^^((c.toUInt32^^^(d.toUInt32<<<8))<<<8)).toNat<2^24:=by
 have hd:d.toUInt32.toNat<2^8:=by have:=d.toNat_lt; simpa using this
 have h1:=V9 c d.toUInt32 8 hd (by omega);exact⟨h1,V9 b _ 16 h1 (by omega)⟩
theorem Y7(a b c d:UInt8):le4 (un4 a b c d)=[a,b,c,d]:=by
 have h:=Wh b c d;have hd:d.toUInt32.toNat<2^8:=by have:=d.toNat_lt; simpa using this
 unfold le4 un4;rw[abV,←EI,←JE,V8 _ _ (by have:=h.2; omega),abV,V8 _ _ (by have:=h.1; omega),abV,V8 _ _ (by omega)];simp
theorem Y8(x:UInt32):un4 x.toUInt8 (x>>>8).toUInt8 (x>>>16).toUInt8 (x>>>24).toUInt8=x:=by
 unfold un4;rw[Ru,←EI,Gu,←JE,Gu,Gu]
theorem Wi(s:UInt32)(a b c d:UInt8):reg s [a,b,c,d]=many 32 (s^^^un4 a b c d):=by
 have h:=Wh b c d;have hd:d.toUInt32.toNat<2^8:=by have:=d.toNat_lt; simpa using this
 have step:∀(s:UInt32) (c:UInt8) (v:UInt32),v.toNat<16777216→many 8 (s^^^(c.toUInt32^^^(v<<<8)))=byte s c^^^v:=by
  intro s c v hv;rw[←ajb,BZ,EH v hv]; rfl
 show byte (byte (byte (byte s a) b) c) d=many (8+(8+(8+8))) _;rw[oz,oz,oz];unfold un4;rw[step s a _ (by have:=h.2; omega),step _ b _ (by have:=h.1; omega),step _ c _ (by omega)];rfl
theorem Wj(l t:List UInt8)(h:t.length=4):t=le4 (update 0 l)↔reg 0xffffffff (l++t)=many 32 0xffffffff:=by
 match t,h with
 | [a,b,c,d],_ =>
  have e:reg 0xffffffff (l++[a,b,c,d])=many 32 (reg 0xffffffff l^^^un4 a b c d):=by
   rw[←Wi]; simp[reg]
  have u:update 0 l=reg 0xffffffff l^^^0xffffffff:=by simp[update]
  rw[e,u];constructor
  ·intro h;have:un4 a b c d=reg 0xffffffff l^^^0xffffffff:=by
    simp only[le4,aix,and_true]at h;obtain⟨rfl,rfl,rfl,rfl⟩:=h;exact Y8 _
   rw[this,←ajb,UInt32.xor_self,UInt32.zero_xor]
  intro h;have h:=V3 32 _ _ h;rw[←Y7];congr 1;generalize reg 0xffffffff l=r at h;have:=aic (r ^^^ ·) h;simpa[←ajb]using this
theorem lY(l:List UInt8):(bits l).length=8*l.length:=by
 induction l with
 | nil=>rfl
 | cons c l ih =>
  show(rQ c++bits l).length=_;rw[aif,ih]; simp[rQ]; omega
theorem JF(l:List UInt8):∀j:Nat,(bits l).getD j false=(l.getD (j/8) 0).toNat.testBit (j%8):=by
 induction l with
 | nil=>intro j; simp[bits]
 | cons c l ih =>
  intro j;have hl:(rQ c).length=8:=by simp[rQ]
  have e:bits (c::l)=rQ c++bits l:=rfl;rw[e];by_cases hj:j<8
  ·simp[List.getD,List.getElem?_append,hj,show j/8=0 by omega,rQ,Nat.mod_eq_of_lt hj]
  have:=ih (j-8);obtain⟨i,hi⟩:∃i,j/8=i+1:=⟨j/8-1,by omega⟩;rw[show(j-8)/8=i by omega,show(j-8)%8=j%8 by omega]at this;rw[hi,List.getD_cons_succ,←this];simp[List.getD,List.getElem?_append,hl,hj]
theorem adX(D:List Bool)(m:Nat)(hm:∀j,m+32≤j→D.getD j false=false)(hl:∀j,j<m→D.getD j false=false)(hs:∃j,D.getD j false=true):feed 0 D≠0:=by
 have ex:∃p,D.getD p false=true∧∀j,j<p→D.getD j false=false:=by
  obtain⟨j,hj⟩:=hs;induction j using Nat.strongRecOn with
  | _ j ih =>
   by_cases h:∃i,i<j∧D.getD i false=true
   ·obtain⟨i,hi,h⟩:=h; exact ih i hi h
   exact⟨j,hj,fun i hi=>by
    cases e:D.getD i false
    ·rfl
    exact(h ⟨i,hi,e⟩).elim⟩
 obtain⟨p,hp,hf⟩:=ex;have hpm:m≤p:=by
  rcases aiP p m with h | h
  ·rw[hl p h]at hp; exact absurd hp (by simp)
  exact h
 have hpl:p<D.length:=by
  rcases aiP p D.length with h | h
  ·exact h
  simp[List.getD,List.getElem?_eq_none h]at hp
 have e:D=List.replicate p false++((true::(D.drop (p+1)).take 31)++List.replicate (D.length-(p+32)) false):=by
  apply List.ext_getElem
  ·simp; omega
  intro j h1 h2;have hd:D[j]=D.getD j false:=by simp[List.getD,List.getElem?_eq_getElem h1]
  rw[hd];rcases aiP j p with hj | hj
  ·rw[List.getElem_append_left (by simpa using hj),hf j hj]; simp
  rw[List.getElem_append_right (by simpa using hj)];simp only[List.length_replicate];rcases Nat.eq_or_lt_of_le hj with rfl | hj'
  ·simpa using hp
  rcases aiP j (p+32)with h3 | h3
  ·rw[List.getElem_append_left (by simp; omega)];obtain⟨i,hi⟩:∃i,j-p=i+1:=⟨j-p-1,by omega⟩;simp only[hi,akr,List.getElem_take,akt];rw[←hd];congr 1; omega
  rw[List.getElem_append_right (by simp; omega),hm j (by omega)]; simp
 rw[e];exact MI p _ _
theorem MK(c c':List UInt8)(hl:c'.length=c.length)(D:List Bool)(hD:D.length=8*c.length)
  (h:∀j,j<8*c.length→(bits c').getD j false=((bits c).getD j false ^^ D.getD j false)) (s:UInt32) :
  reg s c'=reg s c^^^feed 0 D:=by
 rw[JD,JD];have e1:(((bits c).zip D).map fun p=>p.1 ^^ p.2)=bits c':=by
  apply List.ext_getElem
  ·simp[lY,hD,hl]
  intro j h1 h2;have h3:j<8*c.length:=by rw[lY,hl]at h2; exact h2
  have:=h j h3;have a1:j<(bits c).length:=by rw[lY]; exact h3
  have a2:j<D.length:=by omega
  simp only[List.getD,List.getElem?_eq_getElem h2,List.getElem?_eq_getElem a1,List.getElem?_eq_getElem a2,Option.getD_some]at this;rw[this]; simp
 have e2:(((bits c).zip D).map (·.1))=bits c:=by
  rw[List.map_fst_zip]; rw[lY,hD]; exact ah9 _
 have e3:(((bits c).zip D).map (·.2))=D:=by
  rw[List.map_snd_zip]; rw[lY,hD]; exact ah9 _
 have:=V4 ((bits c).zip D) s 0;rw[e1,e2,e3]at this;simpa using this
theorem Cc(a c':List UInt8)(hl:c'.length=a.length+4)(m:Nat)(t:Nat)
  (h:∀j,j<8*(a.length+4)→(bits c').getD j false=((bits (a++le4 (update 0 a))).getD j false ^^ (decide (m≤j∧j<m+32)&&t.testBit (j-m))))
  (hs:∃i,i<32∧t.testBit i=true∧m+i<8*(a.length+4)):c'.drop a.length≠le4 (update 0 (c'.take a.length)):=by
 intro e;let D:=(List.range (8*(a.length+4))).map fun j=>(decide (m≤j∧j<m+32)&&t.testBit (j-m));have gD:∀j,D.getD j false=(decide (j<8*(a.length+4))&&(decide (m≤j∧j<m+32)&&t.testBit (j-m))):=by
  intro j;by_cases hj:j<8*(a.length+4)
  ·simp[D,List.getD,hj]
  simp[D,List.getD,hj]
 have h4:(a++le4 (update 0 a)).length=a.length+4:=by simp[le4]
 have ht:=MK (a++le4 (update 0 a)) c' (by rw[h4,hl]) D (by simp[D,h4]) (by
  intro j hj;rw[h4]at hj;rw[h j hj,gD]; simp[hj]) 0xffffffff
 have h1:=(Wj a (le4 (update 0 a)) rfl).1 rfl;have h2:=(Wj (c'.take a.length) (c'.drop a.length) (by simp[hl])).1 e;rw[ajZ,ht,h1]at h2;have h3:feed 0 D=0:=by
  have:=aic (many 32 0xffffffff ^^^ ·) h2;simpa[←ajb]using this
 refine adX D m ?_ ?_ ?_ h3
 ·intro j hj; rw[gD]; simp[show ¬j<m+32 by omega]
 ·intro j hj; rw[gD]; simp[show ¬m≤j by omega]
 obtain⟨i,hi,ht,hb⟩:=hs;exact⟨m+i,by rw[gD]; simp[hb,ht]; omega⟩
end dL
end
namespace Go.Proofs.YtapmgonflgahbaaGreatDoor
section
set_option maxHeartbeats 400000
open Go.RowKit
variable{α:Type}
theorem Wn(s:UInt32)(l:List UInt8)(c:UInt8):dL.reg s (l++[c])=dL.byte (dL.reg s l) c:=by simp[dL.reg]
theorem JG(s:UInt32)(l:List UInt8)(k:Nat)(h:k<l.length):dL.reg s (l.take (k+1))=dL.byte (dL.reg s (l.take k)) l[k]:=by
 rw[take_snoc l k h,Wn]
theorem OM(x:UInt32)(h:(bits .and .u32 (x.toNat:Int) 1==1)=true):bits .xor .u32 ((x.toNat:Int)/(2:Int)) 3988292384=((dL.one x).toNat:Int):=by
 rw[TF,adk];rw[NM]at h;have h':x&&&1=1:=by
  apply aiS.1;simp only[aiv]at h;have:=h; simp only[UInt32.reduceToNat]; omega
 simp[dL.one,h']
theorem Wp(x:UInt32)(h:(bits .and .u32 (x.toNat:Int) 1==1)=false):((x.toNat:Int)/(2:Int))=((dL.one x).toNat:Int):=by
 rw[TF];rw[NM]at h;have h':¬x&&&1=1:=by
  intro e; rw[e]at h; simp at h
 simp[dL.one,h']
theorem JH(s:UInt32)(v:Value)(l:List UInt8)(w:World)(hv:bH w v l) :
  Calls Tryz.prog 149 #[aU s,v] w fun e w'=>e = .returned (aU (dL.update s l))∧w=w':=by
 obtain⟨a,cap,rfl,hm,ha⟩:=hv;have hl:=lI hm ha;have HA:=ah1 ha;clear ha;go_enter Tryz.func149,Tryz.ntmps149
 go_wp2
 go_loop [0,12] (fun s1 i=>∃k:Nat,k≤l.length∧i = .i k∧s1=aU (dL.reg (s^^^0xffffffff) (l.take k))) (fun _ i=>l.length-(intOf i).toNat)
 case atStart=>exact⟨0,aij _,rfl,by rw[Z5,TI]; rfl⟩
 case round =>
  obtain⟨k,hk,rfl,rfl⟩:=hrel;by_cases hlt:k<l.length
  ·rcases HA.out with ⟨rfl,_⟩ | ⟨b,o,rfl,hb,hlc,hc⟩
   ·simp at hlt
   have hck:=hc k hlt;go_wp2
   go_loop [0,20] (fun s1 i=>∃j:Nat,j≤8∧i = .i j∧s1=aU (dL.many j ((dL.reg (s^^^0xffffffff) (l.take k))^^^l[k].toUInt32))) (fun _ i=>8-(intOf i).toNat)
   case atStart=>exact⟨0,aij _,rfl,by rw[TG,P5]; rfl⟩
   case round =>
    obtain⟨j,hj,rfl,rfl⟩:=hrel;by_cases hlt:j<8
    ·have E:Hid (dL.many (j+1) ((dL.reg (s^^^0xffffffff) (l.take k))^^^l[k].toUInt32)=dL.one (dL.many j ((dL.reg (s^^^0xffffffff) (l.take k))^^^l[k].toUInt32))):=rfl;generalize dL.many j ((dL.reg (s^^^0xffffffff) (l.take k))^^^l[k].toUInt32)=x at E;go_wp2
     ·go_round
      case rel=>exact⟨j+1,by omega,by go_num,by rw[E.out,OM x ‹_›]⟩
      case measure=>simp[intOf]; omega
     go_round
     case rel=>exact⟨j+1,by omega,by go_num,by rw[E.out,Wp x ‹_›]⟩
     case measure=>simp[intOf]; omega
    obtain rfl:j=8:=by omega
    go_wp2
    go_round
    case rel=>exact⟨k+1,by omega,by go_num,by rw[JG _ _ _ ‹_›]; rfl⟩
    case measure=>simp[intOf]; omega
  obtain rfl:k=l.length:=by omega
  go_wp2
  go_ret
  exact⟨gy (by rw[Z5,TI]; simp only[dL.update]),rfl⟩
theorem Wq(l:List (List UInt8))(k:Nat)(h:k<l.length):dL.crc (l.take (k+1))=dL.update (dL.crc (l.take k)) l[k]:=by
 rw[take_snoc l k h]; simp only[dL.crc,List.foldl_append,List.foldl_cons,List.foldl_nil]
theorem crc32(v:Value)(l:List (List UInt8))(w:World)(hv:uf w v l) :
  Calls Tryz.prog 88 #[v] w fun e w'=>e = .returned (aU (dL.crc l))∧w=w':=by
 obtain⟨a,cap,rfl,hm,ha⟩:=hv;have hl:=TB hm ha;have HA:=ah1 ha;clear ha;go_enter Tryz.func88,Tryz.ntmps88
 go_wp2
 go_loop [3,8] (fun s1 i=>∃k:Nat,k≤l.length∧i = .i k∧s1=aU (dL.crc (l.take k))) (fun _ i=>l.length-(intOf i).toNat)
 case atStart=>exact⟨0,aij _,rfl,rfl⟩
 case round =>
  obtain⟨k,hk,rfl,rfl⟩:=hrel;by_cases hlt:k<l.length
  ·rcases HA.out with ⟨rfl,_⟩ | ⟨b,o,rfl,hb,hlc,hc⟩
   ·simp at hlt
   obtain⟨x,hck,hx⟩:=hc k hlt;go_wp2_with fail
   refine(JH _ x l[k] _ hx).mono ?_;rintro e w' ⟨rfl,rfl⟩;go_wp2
   go_round
   case rel=>exact⟨k+1,by omega,by go_num,by rw[Wq l k ‹_›]⟩
   case measure=>simp[intOf]; omega
  obtain rfl:k=l.length:=by omega
  go_wp2
  go_ret
  exact⟨gy (by simp only),rfl⟩
theorem Ws(x:UInt32)(h:((x.toNat:Int)%2==1)=true):bits .xor .u32 ((x.toNat:Int)/2%4294967296) 3988292384=((dL.one x).toNat:Int):=by
 have e:((x.toNat:Int)/2%4294967296)=(x.toNat:Int)/2:=by have:=x.toNat_lt; omega
 rw[e];exact OM x (by rw[NM,NK]; exact h)
theorem Y9(x:UInt32)(h:((x.toNat:Int)%2==1)=false):((x.toNat:Int)/2%4294967296)=((dL.one x).toNat:Int):=by
 have e:((x.toNat:Int)/2%4294967296)=(x.toNat:Int)/2:=by have:=x.toNat_lt; omega
 rw[e];exact Wp x (by rw[NM,NK]; exact h)
theorem abW(s:UInt32)(w:World) :
  Calls Tryz.prog 137 #[aU s] w fun e w'=>e = .returned (aU (dL.many 8 s))∧w=w':=by
 go_enter Tryz.func137,Tryz.ntmps137
 go_wp2
 go_loop [0,3] (fun s1 i=>∃j:Nat,j≤8∧i = .i j∧s1=aU (dL.many j s)) (fun _ i=>8-(intOf i).toNat)
 case atStart=>exact⟨0,aij _,rfl,rfl⟩
 case round =>
  obtain⟨j,hj,rfl,rfl⟩:=hrel;by_cases hlt:j<8
  ·have E:Hid (dL.many (j+1) s=dL.one (dL.many j s)):=rfl;generalize dL.many j s=x at E;go_wp2
   ·go_round
    case rel=>exact⟨j+1,by omega,by go_num,by rw[E.out,Ws x ‹_›]⟩
    case measure=>simp[intOf]; omega
   go_round
   case rel=>exact⟨j+1,by omega,by go_num,by rw[E.out,Y9 x ‹_›]⟩
   case measure=>simp[intOf]; omega
  obtain rfl:j=8:=by omega
  go_wp2
  go_ret
  exact⟨rfl,rfl⟩
end
section
set_option maxHeartbeats 400000
open Go.RowKit
variable{α:Type}
theorem Wu(x:UInt32)(c:UInt8):bits .xor .u32 ((dL.many 8 ((x&&&255)^^^c.toUInt32)).toNat:Int) ((x>>>8).toNat:Int)=((dL.byte x c).toNat:Int):=by
 rw[P5,dL.V7]
theorem Rx(s:UInt32)(v:Value)(l:List UInt8)(w:World)(hv:bH w v l) :
  Calls Tryz.prog 76 #[aU s,v] w fun e w'=>e = .returned (aU (dL.update s l))∧w=w':=by
 obtain⟨a,cap,rfl,hm,ha⟩:=hv;have hl:=lI hm ha;have HA:=ah1 ha;clear ha;go_enter Tryz.func76,Tryz.ntmps76
 go_wp2
 go_loop [5,6] (fun s1 i=>∃k:Nat,k≤l.length∧i = .i k∧s1=aU (dL.reg (s^^^0xffffffff) (l.take k))) (fun _ i=>l.length-(intOf i).toNat)
 case atStart=>exact⟨0,aij _,rfl,by rw[Z7]; rfl⟩
 case round =>
  obtain⟨k,hk,rfl,rfl⟩:=hrel;by_cases hlt:k<l.length
  ·rcases HA.out with ⟨rfl,_⟩ | ⟨b,o,rfl,hb,hlc,hc⟩
   ·simp at hlt
   have hck:=hc k hlt;have E:=ah1 (JG (s^^^0xffffffff) l k hlt);generalize dL.reg (s^^^0xffffffff) (l.take k)=x at E;go_wp2_with fail
   rw[aaY,TG,P5];refine(abW _ _).mono ?_;rintro e w' ⟨rfl,rfl⟩;go_wp2
   go_round
   case rel=>exact⟨k+1,by omega,by go_num,by rw[E.out,KF,Wu]⟩
   case measure=>simp[intOf]; omega
  obtain rfl:k=l.length:=by omega
  go_wp2
  go_ret
  exact⟨gy (by simp only[Z7]; rfl),rfl⟩
theorem Wv(v:Value)(l:List UInt8)(w:World)(hv:bH w v l)(hlen:l.length≤140737488355328) :
  Calls Tryz.prog 89 #[v] w fun e w'=>∃v',e = .returned v'∧w'.ownsRow w.heap.size 5 1 v' l.length (l.map dQ)∧Below w.heap.size w w':=by
 have hr:=hv.raw (fun _=>rfl);obtain⟨a,cap,rfl,hm,ha⟩:=hv;rcases a with _ | ad
 ·have hz:l=[]∧cap=0:=by
   rcases ha with ⟨h,h0⟩ | ⟨b,o,h,_⟩
   ·exact⟨h,h0 rfl⟩
   cases h
  obtain⟨rfl,rfl⟩:=hz;have hnil:=Lib.run_eql_slice_nil (P:=Tryz.prog) w 49 5 none 0 0 0 0 Tryz.underlying49;clear ha hr;go_enter Tryz.func89,Tryz.ntmps89
  go_wp2
  go_ret
  exact⟨_,rfl,akc _ _ _ _,ais _ _⟩
 have hnil:=Lib.run_eql_slice_nil (P:=Tryz.prog) w 49 5 (some ad) l.length cap 0 0 Tryz.underlying49;have hown:=ajR (base:=w.heap.size) (e:=5) (size:=1) w #[] 0 (ah9 _) (aij _) rfl;have hr:=xY hr (.cells #[] 5);have h63:0+l.length≤maxLen:=by
  rcases ha with ⟨rfl,_⟩ | ⟨b,o,_,_,h,_⟩
  ·simp
  omega
 have hby:(0+l.length)*1≤140737488355328:=by omega
 clear ha;go_enter Tryz.func89,Tryz.ntmps89
 go_wp2_with (at_builtin; refine aX rfl _ _ _ rfl pY w.heap.size hown rfl hr rfl h63 hby (by simp) ?_; intro v' w' hown' hg)
 go_ret
 simp only[ai0,ajl]at hown';exact⟨_,rfl,by simpa using hown',((ais _ _).alloc (ah9 _) _).grown hg (by simp) (by simp[Value.ownBlock])⟩
theorem OO(l:List UInt8):dL.crc [l]=dL.update 0 l:=rfl
theorem OQ(x:UInt32):(x.toNat:Int)/(65536:Int)=((x>>>16).toNat:Int):=by
 rw[ajk]; simp[Nat.shiftRight_eq_div_pow]
theorem OT(x:UInt32):(x.toNat:Int)/(16777216:Int)=((x>>>24).toNat:Int):=by
 rw[ajk]; simp[Nat.shiftRight_eq_div_pow]
theorem Ry(x:UInt32):(dL.le4 x).map dQ =
  [.u ((x.toNat:Int)%256),.u ((x.toNat:Int)/256%256),.u ((x.toNat:Int)/65536%256),.u ((x.toNat:Int)/16777216%256)]:=by
 simp only[dL.le4,aiW,ajm,dQ];rw[KF,OQ,OT,rY,rY,rY,rY]
theorem OU(x:UInt32)(w:World)(e:TypeId):dS (w.alloc (.cells #[.u ((x.toNat:Int)%256),.u ((x.toNat:Int)/256%256),.u ((x.toNat:Int)/65536%256),.u ((x.toNat:Int)/16777216%256)] e)) 1
  (.slice (some ⟨w.heap.size,0,none⟩) 4 4) 4 ((dL.le4 x).map dQ):=by
 rw[Ry];exact Fa w _ e 4 1 rfl (by unfold maxLen; omega) (by intro u hu; simp at hu; rcases hu with rfl | rfl | rfl | rfl<;>rfl)
theorem tJ(v:Value)(l:List UInt8)(w:World)(hv:bH w v l)(hlen:l.length≤100000000) :
  Calls Tryz.prog 37 #[v] w fun e w'=>∃v',e = .returned v' ∧
   w'.ownsRow w.heap.size 5 1 v' (l++dL.le4 (dL.update 0 l)).length ((l++dL.le4 (dL.update 0 l)).map dQ)∧Below w.heap.size w w':=by
 obtain⟨a,cap,rfl⟩:∃a cap,v = .slice a l.length cap:=by obtain⟨a,cap,h,_⟩:=hv; exact⟨a,cap,h⟩
 have hp:=NI (R:=bH) w (.slice a l.length cap) l 49 (hv.below (aI _ _));have hv1:=hv.below (aI w (.cells #[.slice a l.length cap] 49));have h63:l.length+4≤maxLen:=by unfold maxLen; omega
 have hby:(l.length+4)*1≤140737488355328:=by omega
 go_enter Tryz.func37,Tryz.ntmps37
 go_wp2_with fail
 refine(crc32 _ _ _ hp).mono ?_;rintro e w' ⟨rfl,rfl⟩;rw[OO];go_wp2_with fail
 refine(Wv _ _ _ hv1 (by omega)).mono ?_;rintro e w2 ⟨v2,rfl,hown,hb2⟩;have hb2':Below w.heap.size w w2:=(aI _ _).trans (hb2.mono (by simp));generalize hx:dL.update 0 l=x;have HX:=ah1 hx;clear hx;have hr:=OU x w2 5;have hown':=(aQ hown (show w.heap.size≤_ by simp)).alloc (.cells #[.u ((x.toNat:Int)%256),.u ((x.toNat:Int)/256%256),.u ((x.toNat:Int)/65536%256),.u ((x.toNat:Int)/16777216%256)] 5);have hsz:w.heap.size≤w2.heap.size:=by have:=hb2.size; simp at this; omega
 have hsz':w.heap.size≤(w2.alloc (.cells #[.u ((x.toNat:Int)%256),.u ((x.toNat:Int)/256%256),.u ((x.toNat:Int)/65536%256),.u ((x.toNat:Int)/16777216%256)] 5)).heap.size:=by simp; omega
 clear hown;go_wp2_with (at_builtin; refine aX rfl _ _ _ rfl pY w.heap.size hown' rfl hr rfl h63 hby hsz' ?_; intro v' w' hown' hg)
 go_ret
 refine⟨_,rfl,by rw[HX.out]; simpa[dL.le4]using hown',(hb2'.alloc hsz _).grown hg hsz' ?_⟩;exact fun k hk=>(World.ownsRow.lt ‹_› k hk).1
theorem DV(f:α→Value)(l:List α)(k:Nat)(h:k<l.length):(l.take (k+1)).map f=(l.take k).map f++[f l[k]]:=by
 rw[take_snoc l k h,aiZ]; rfl
theorem Rz(v:Value)(l:List UInt8)(w:World)(hv:bH w v l)(hlen:l.length≤100000000) :
  Calls Tryz.prog 31 #[v] w fun e w'=>∃v',e = .returned v' ∧
   w'.ownsRow w.heap.size 5 1 v' (l++dL.le4 (dL.update 0 l)).length ((l++dL.le4 (dL.update 0 l)).map dQ)∧Below w.heap.size w w':=by
 have hv0:=hv;obtain⟨a,cap,rfl,hm,ha⟩:=hv;have hl:=lI hm ha;have HA:=ah1 ha;clear ha;go_enter Tryz.func31,Tryz.ntmps31
 go_wp2
 go_loopw [3,4] (fun out i wr=>∃k:Nat,k≤l.length∧i = .i k∧wr.ownsRow w.heap.size 5 1 out k ((l.take k).map dQ)∧Below w.heap.size w wr) (fun _ i _=>l.length-(intOf i).toNat)
 case atStart=>exact⟨0,aij _,rfl,ajR w #[] 0 (ah9 _) (aij _) rfl,aI _ _⟩
 case round =>
  obtain⟨k,hk,rfl,hown,hbel⟩:=hrel;by_cases hlt:k<l.length
  ·rcases HA.out with ⟨rfl,_⟩ | ⟨b,o,rfl,hb,hlc,hc⟩
   ·simp at hlt
   have hck:wr.cell? ⟨b,o+k,none⟩=some (dQ l[k]):=by rw[hbel.cell (p:=⟨b,o+k,none⟩) hb]; exact hc k hlt
   clear hc;have hr:=jY wr (dQ l[k]) 5 rfl;have hown':=hown.alloc (.cells #[dQ l[k]] 5);have h63:k+1≤maxLen:=by unfold maxLen; omega
   have hby:(k+1)*1≤140737488355328:=by omega
   have hsz:w.heap.size≤wr.heap.size:=hbel.size;have hsz':w.heap.size≤(wr.alloc (.cells #[dQ l[k]] 5)).heap.size:=by simp; omega
   clear hown;go_wp2_with (at_builtin; refine aX rfl _ _ _ rfl pY w.heap.size hown' rfl hr rfl h63 hby hsz' ?_; intro v' w' hown2 hg)
   go_roundw
   case rel=>exact⟨k+1,by omega,by go_num,by rw[DV _ _ _ ‹_›]; exact hown2,(hbel.alloc hsz _).grown hg hsz' (fun k hk=>(World.ownsRow.lt hown' k hk).1)⟩
   case measure=>simp[intOf]; omega
  obtain rfl:k=l.length:=by omega
  have hv1:=hv0.below hbel;simp only[ai1]at hown;go_wp2_with fail
  refine(Rx 0 _ _ _ hv1).mono ?_;rintro e w' ⟨rfl,rfl⟩;generalize hx:dL.update 0 l=x;have HX:=ah1 hx;clear hx;have hr:=OU x wr 5;have hown':=hown.alloc (.cells #[.u ((x.toNat:Int)%256),.u ((x.toNat:Int)/256%256),.u ((x.toNat:Int)/65536%256),.u ((x.toNat:Int)/16777216%256)] 5);have hsz:w.heap.size≤wr.heap.size:=hbel.size;have hsz':w.heap.size≤(wr.alloc (.cells #[.u ((x.toNat:Int)%256),.u ((x.toNat:Int)/256%256),.u ((x.toNat:Int)/65536%256),.u ((x.toNat:Int)/16777216%256)] 5)).heap.size:=by simp; omega
  have h63:l.length+4≤maxLen:=by unfold maxLen; omega
  have hby:(l.length+4)*1≤140737488355328:=by omega
  clear hown;go_wp2_with (at_builtin; refine aX rfl _ _ _ rfl pY w.heap.size hown' rfl hr rfl h63 hby hsz' ?_; intro v' w' hown2 hg)
  go_ret
  exact⟨_,rfl,by rw[HX.out]; simpa[dL.le4]using hown2,(hbel.alloc hsz _).grown hg hsz' (fun k hk=>(World.ownsRow.lt hown' k hk).1)⟩
theorem JI{c y:UInt8}{z:Int}(hz:z=(y.toNat:Int)):((c.toNat:Int) != z)=(c != y):=by
 subst hz;rw[ai4,bne_iff_ne,bne_iff_ne];constructor
 ·intro h e; exact h (by rw[e])
 intro h e; exact h (UInt8.toNat_inj.1 (by omega))
theorem aas(x:UInt32):(x.toNat:Int)%(256:Int)=(x.toUInt8.toNat:Int):=rY x
theorem aat(x:UInt32):(x.toNat:Int)/(256:Int)%(256:Int)=((x>>>8).toUInt8.toNat:Int):=by rw[KF,rY]
theorem aau(x:UInt32):(x.toNat:Int)/(65536:Int)%(256:Int)=((x>>>16).toUInt8.toNat:Int):=by rw[OQ,rY]
theorem aav(x:UInt32):(x.toNat:Int)/(16777216:Int)%(256:Int)=((x>>>24).toUInt8.toNat:Int):=by rw[OT,rY]
theorem four(l:List UInt8)(m:Nat)(h:l.length=m+4):∃c0 c1 c2 c3,l.drop m=[c0,c1,c2,c3]:=by
 have e:(l.drop m).length=4:=by simp; omega
 match l.drop m,e with
 | [c0,c1,c2,c3],_=>exact⟨c0,c1,c2,c3,rfl⟩
def RD(c0 c1 c2 c3:UInt8)(x:UInt32)(k:Nat):Prop:=[c0,c1,c2,c3].take k=(dL.le4 x).take k
theorem Gv(v:Value)(l:List UInt8)(w:World)(hv:bH w v l)(h:l.length<4) :
  Calls Tryz.prog 101 #[v] w fun e w'=>e = .returned (.tuple #[.sn,.i 4])∧w=w':=by
 obtain⟨a,cap,rfl⟩:∃a cap,v = .slice a l.length cap:=by obtain⟨a,cap,h,_⟩:=hv; exact⟨a,cap,h⟩
 clear hv;go_enter Tryz.func101,Tryz.ntmps101
 go_wp2
 go_ret2
 exact⟨rfl,rfl⟩
theorem zf(v:Value)(l:List UInt8)(m:Nat)(w:World)(hv:bH w v l)(hlen:l.length=m+4)(hm:m≤100000000) :
  Calls Tryz.prog 101 #[v] w fun e w'=>∃v' k,e = .returned (.tuple #[v',.i k])∧Below w.heap.size w w' ∧
   (l.drop m=dL.le4 (dL.update 0 (l.take m))→k=0∧bH w' v' (l.take m))∧(l.drop m≠dL.le4 (dL.update 0 (l.take m))→k=19∧v' = .sn):=by
 obtain⟨a,cap,rfl,hcap,ha⟩:=hv;rcases ha with ⟨rfl,_⟩ | ⟨b,o,rfl,hb,hlc,hc⟩
 ·simp at hlen
 have hr:=TD (n:=m) hb hlc hcap (by omega) hc;have hp:=NI (R:=bH) w (.slice (some ⟨b,o,none⟩) m cap) (l.take m) 49 (hr.below (aI _ _));have hr1:=hr.below (aI w (.cells #[.slice (some ⟨b,o,none⟩) m cap] 49));have hlt:m≤cap:=by omega
 have hne:¬m=cap:=by omega
 have hmc:m<cap:=by omega
 go_enter Tryz.func101,Tryz.ntmps101
 go_wp2_with fail
 refine(crc32 _ _ _ hp).mono ?_;rintro e w' ⟨rfl,rfl⟩;rw[OO];go_wp2_with fail
 generalize hx:dL.update 0 (l.take m)=x;have HX:=ah1 hx;clear hx hr;obtain⟨c0,c1,c2,c3,hd⟩:=four l m hlen;have hcd:∀k (h:k<4),(w.alloc (.cells #[.slice (some ⟨b,o,none⟩) m cap] 49)).cell? ⟨b,o+m+k,none⟩=some (dQ ([c0,c1,c2,c3][k])):=by
  intro k hk;rw[World.cell?_alloc_past _ _ _ hb,ajW,hc (m+k) (by omega)];simp only[←hd];rw[akt]
 have HC:=ah1 hcd;have HD:=ah1 hd;clear hcd hc hd;go_loop [22] (fun i=>∃k:Nat,k≤4∧i = .i k∧RD c0 c1 c2 c3 x k) (fun i=>4-(intOf i).toNat)
 case atStart=>exact⟨0,by omega,rfl,rfl⟩
 case round =>
  obtain⟨k,hk,rfl,heq⟩:=hrel;have HE:=ah1 heq;clear heq;have hk':k=0∨k=1∨k=2∨k=3∨k=4:=by omega
  rcases hk' with rfl | rfl | rfl | rfl | rfl
  ·have hck:=HC.out 0 (by omega);simp only[ajJ,akk]at hck;go_wp2
   ·have h := ‹((c0.toNat:Int) != _)=true›;rw[JI (aas x)]at h;go_ret2
    exact⟨_,_,rfl,aI _ _,fun e=>by rw[HD.out,HX.out]at e; simp[dL.le4]at e; simp[e]at h,fun _=>⟨rfl,rfl⟩⟩
   have h := ‹((c0.toNat:Int) != _)=false›;rw[JI (aas x)]at h;go_round
   case rel=>exact⟨1,by omega,rfl,by simp[RD,dL.le4]at h ⊢; exact h⟩
   case measure=>simp[intOf]
  ·have hck:=HC.out 1 (by omega);simp only[akk,akr]at hck;go_wp2
   ·have h := ‹((c1.toNat:Int) != _)=true›;rw[JI (aat x)]at h;go_ret2
    exact⟨_,_,rfl,aI _ _,fun e=>by rw[HD.out,HX.out]at e; simp[dL.le4]at e; simp[e]at h,fun _=>⟨rfl,rfl⟩⟩
   have h := ‹((c1.toNat:Int) != _)=false›;rw[JI (aat x)]at h;go_round
   case rel=>exact⟨2,by omega,rfl,by have:=HE.out; simp[RD,dL.le4]at h this ⊢; exact⟨this,h⟩⟩
   case measure=>simp[intOf]
  ·have hck:=HC.out 2 (by omega);simp only[akk,akr]at hck;go_wp2
   ·have h := ‹((c2.toNat:Int) != _)=true›;rw[JI (aau x)]at h;go_ret2
    exact⟨_,_,rfl,aI _ _,fun e=>by rw[HD.out,HX.out]at e; simp[dL.le4]at e; simp[e]at h,fun _=>⟨rfl,rfl⟩⟩
   have h := ‹((c2.toNat:Int) != _)=false›;rw[JI (aau x)]at h;go_round
   case rel=>exact⟨3,by omega,rfl,by have:=HE.out; simp[RD,dL.le4]at h this ⊢; exact⟨this.1,this.2,h⟩⟩
   case measure=>simp[intOf]
  ·have hck:=HC.out 3 (by omega);simp only[akk,akr]at hck;go_wp2
   ·have h := ‹((c3.toNat:Int) != _)=true›;rw[JI (aav x)]at h;go_ret2
    exact⟨_,_,rfl,aI _ _,fun e=>by rw[HD.out,HX.out]at e; simp[dL.le4]at e; simp[e]at h,fun _=>⟨rfl,rfl⟩⟩
   have h := ‹((c3.toNat:Int) != _)=false›;rw[JI (aav x)]at h;go_round
   case rel=>exact⟨4,by omega,rfl,by have:=HE.out; simp[RD,dL.le4]at h this ⊢; exact⟨this.1,this.2.1,this.2.2,h⟩⟩
   case measure=>simp[intOf]
  have e:l.drop m=dL.le4 (dL.update 0 (l.take m)):=by
   rw[HD.out,HX.out]; have:=HE.out; simpa[RD,dL.le4]using this
  have HF:=ah1 e;clear e;go_wp2_with fail
  refine(Wv _ _ _ hr1 (by simp; omega)).mono ?_;rintro e w2 ⟨v2,rfl,hown,hb2⟩;have hrow:=aS hown;clear hown;go_wp2_with fail
  go_ret2
  exact⟨_,_,rfl,(aI _ _).trans (hb2.mono (by simp)),fun _=>⟨rfl,hrow⟩,fun h=>(h HF.out).elim⟩
end
end Go.Proofs.YtapmgonflgahbaaGreatDoor
