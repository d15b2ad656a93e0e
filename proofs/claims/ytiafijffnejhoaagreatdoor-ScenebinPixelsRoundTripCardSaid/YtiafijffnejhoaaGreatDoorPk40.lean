/- A literal string as bytes, as two steps: the row and its -/
import Derived.Test.YtiafijffnejhoaaGreatDoorPk24
import Derived.Test.YtiafijffnejhoaaGreatDoorOwn
import Derived.Lib.SlBytesConst
import Derived.Laws.AppendOwn
import Derived.Lib.Hide
import Derived.Test.YtiafijffnejhoaaGreatDoorProg
import Derived.Test.YtiafijffnejhoaaGreatDoorBase
section
namespace Go.Sx
open Go.Proofs.YtiafijffnejhoaaGreatDoor Go.RowKit Go.Rel
set_option linter.unusedVariables false
variable{P:Program}{ops:Array Oper}{Q:Exit→Act→World→Prop}{w0 w:World}{a:Act}{os:List Oper}{n:Nat}{l:List (Nat×Value)}{bl:List (Nat×List Value)}{vs:List dY}
def Ut(os:List Oper):Option (TypeId×TypeId×Nat×Nat):=match os with
 | _::o::_=>(match o.guard,o.dst,o.op with
  | none,some d,.convert s t (.tmp x)=>some (s,t,x,d)
  | _,_,_=>none)
 | _=>none
theorem KQ{w:World}{A:List Value}{e:TypeId}{m:Nat}{fr:Nat×Nat}(hA:A.length=m)(hm:m≤maxLen)(h1:A.all (·.oneCell')=true):eX (w.alloc (.cells A.toArray e fr)) 1 (.slice (some ⟨w.heap.size,0,none⟩) m m) m A:=by
 refine⟨by omega,fun u hu=>by rw[ahz]at h1; exact h1 u hu,.inr ⟨w.heap.size,0,m,rfl,by simp,ahh _,hm,fun j u hj=>?_⟩⟩;have:(w.alloc (.cells A.toArray e fr)).heap[w.heap.size]?=some (.cells A.toArray e fr):=by
  show(w.heap.push (.cells A.toArray e fr))[w.heap.size]?=_;simp
 rw[ah4];unfold World.cell?;rw[this];simpa using hj
theorem lit(S:St w0 a w n l bl vs)(d1 d2 m:Nat)(A:List Value)(t e:TypeId)(ht:P.underlying t=some (.slice e))(he:P.underlying e=some (.int .u8))
  (next:∀{a' w' b},Ext w w'→eX w' 1 (.slice (some ⟨b,0,none⟩) m m) m A→St w0 a' w' n ((d2,.slice (some ⟨b,0,none⟩) m m)::l) bl vs→wpList P ops Q (os.drop 2) a' w')
  (hl:(l.lookup d1).isNone=true:=by kernel_rfl) (h12:(d1==d2)=false:=by rfl)
  (hx:∀r,ES P r os l=some (A,e,.slice (some ⟨r,0,none⟩) m m,some d1):=by intro r; kernel_rfl) (h2:Ut os=some (t,t,d1,d2):=by kernel_rfl) (hA:A.length=m:=by rfl) (hm:m≤maxLen:=by decide) (h1:A.all (·.oneCell')=true:=by kernel_rfl)
  (hd1:Aq n (some d1)=true:=by rfl) (hd2:Aq n (some d2)=true:=by rfl):wpList P ops Q os a w:=by
 have hx:=hx w.heap.size;cases os with
 | nil=>cases h2
 | cons o os =>
 cases os with
 | nil=>cases h2
 | cons o2 os =>
  unfold ES at hx;unfold Ut at h2;simp only at hx h2;split at hx
  ·rename_i A' ty k' hg hav hev;split at hx
   ·rename_i v hv;simp only[ahd,ahg]at hx;obtain⟨rfl,rfl,rfl,hdst⟩:=hx;simp only[ah5]at hav;have hc:execOp a.eval o=execOp (wQ (lift l) []) o:=by
     refine execOp_congr o (fun cs b e1=>by rw[e1]at hav; cases hav.1) fun x hx=>?_;have h2:=hav.2;simp only[aiZ,aje]at h2;obtain⟨v,hv⟩:=aij.1 (h2 x hx);rw[gy (Std.act a) (jd (bP S.s) o x hx) (p:=[]) rfl hv];simp[wQ,hv]
    have hv':ev0 P k'=some (.value (.slice (some ⟨w.heap.size,0,none⟩) m m)):=by
     unfold gJ at hv;split at hv
     ·rename_i h; obtain h2:=ahl hv; rw[h]; simp only[Cb.val.injEq]at h2; rw[h2]
     ·cases hv
     cases hv
    have hrun:(execOp a.eval o).run P w = .ok (.value (.slice (some ⟨w.heap.size,0,none⟩) m m)) (w.alloc (.cells A'.toArray ty)):=by rw[hc,mJ hev,l7 hv']
    split at h2
    ·rename_i d s' t' x hg2 ac4 hop2;simp only[ahd,ahg]at h2;obtain⟨rfl,rfl,rfl,rfl⟩:=h2;unfold wpList;rw[ahf (by simp[Region.wanted,hg])];left;unfold Oper.wp;rw[hrun];simp only[Oper.upon];rw[hdst];have hs1:=wP (d:=some x) S.s hd1 (.slice (some ⟨w.heap.size,0,none⟩) m m);have ex:(a.put (some x) (.slice (some ⟨w.heap.size,0,none⟩) m m)).eval (.tmp x) = .slice (some ⟨w.heap.size,0,none⟩) m m:=hs1.has x _ (by simp[KA]);have hrun2:(execOp (a.put (some x) (.slice (some ⟨w.heap.size,0,none⟩) m m)).eval o2).run P (w.alloc (.cells A'.toArray ty)) = .ok (.value (.slice (some ⟨w.heap.size,0,none⟩) m m)) (w.alloc (.cells A'.toArray ty (A'.toArray.size,A'.toArray.size+1))):=by
      unfold execOp;rw[hop2];simp only[ex];rw[ahS,Go.Lib.run_convert_bytes_const w _ ty A'.toArray m m ht he];rfl
     unfold wpList;rw[ahf (by simp[Region.wanted,hg2])];left;unfold Oper.wp;rw[hrun2];simp only[Oper.upon];rw[ac4];have hs2:=wP (d:=some d) hs1 hd2 (.slice (some ⟨w.heap.size,0,none⟩) m m);have hE:Ext w (w.alloc (.cells A'.toArray ty (A'.toArray.size,A'.toArray.size+1))):=aF _ _;refine next hE (KQ hA hm h1) ((S.grow hE).act ⟨hs2.size,hs2.defers,fun i v hi=>hs2.has i v ?_⟩);simp only[KA,ahR]at hi ⊢;by_cases hid:i=d
     ·subst hid; simpa using hi
     have e1:(i==d)=false:=by simpa using hid
     simp only[e1]at hi ⊢;by_cases hix:i=x
     ·subst hix;rw[Option.isNone_iff_eq_none.1 hl]at hi; cases hi
     have e2:(i==x)=false:=by simpa using hix
     simpa only[e2]using hi
    cases h2
   cases hx
  cases hx
def YX(os:List Oper)(l:List (Nat×Value)):Option (TypeId×TypeId×ByteArray×Nat):=match os with
 | o::_=>(match o.guard,o.dst,o.op with
  | none,some d,.convert s t x=>(match rd (lift l) [] x with
   | some (.string z)=>some (s,t,z,d)
   | _=>none)
  | _,_,_=>none)
 | _=>none
theorem bytesOf(S:St w0 a w n l bl vs)(d:Nat)(bs:List UInt8){src dst e:TypeId}(hs:P.underlying src=some .string)(hd:P.underlying dst=some (.slice e))(he:P.underlying e=some (.int .u8))(hn:bs.length≤maxLen)
  (next:∀{a' w' b cap},Ext w w'→bZ w' (.slice (some ⟨b,0,none⟩) bs.length cap) bs→St w0 a' w' n ((d,.slice (some ⟨b,0,none⟩) bs.length cap)::l) bl vs→wpList P ops Q (os.drop 1) a' w')
  (hx:YX os l=some (src,dst,⟨bs.toArray⟩,d):=by kernel_rfl) (hdd:Aq n (some d)=true:=by rfl):wpList P ops Q os a w:=by
 cases os with
 | nil=>cases hx
 | cons o os =>
  unfold YX at hx;simp only at hx;split at hx
  ·rename_i d' s' t' x hg hdst hop;split at hx
   ·rename_i z hxx;simp only[ahd,ahg]at hx;obtain⟨rfl,rfl,rfl,rfl⟩:=hx;have hst:=jd (bP S.s) o;have ex:a.eval x = .string ⟨bs.toArray⟩:=gy (Std.act a) (hst x (by rw[hop]; simp[Op.operands])) (p:=[]) rfl hxx;have hsz:(⟨bs.toArray⟩:ByteArray).size=bs.length:=by simp[ByteArray.size]
    have hr:=Go.run_bytes_of_string (P:=P) w s' t' e ⟨bs.toArray⟩ hs hd he;rw[hsz]at hr;have hE:Ext w (w.drew.alloc (.cells (Go.bytesRow ⟨bs.toArray⟩ (grownCap w bs.length 0 e)) e ((Go.bytesRow ⟨bs.toArray⟩ (grownCap w bs.length 0 e)).size,(Go.bytesRow ⟨bs.toArray⟩ (grownCap w bs.length 0 e)).size+1))):=Ext.trans' (below_drewN (ahs _ _) 1) (aF _ _);refine acP S d' _ rfl hg hdst (by unfold execOp; rw[hop]; simp only[ex]; rw[ahS,hr]; rfl) hE (fun S=>next hE ⟨_,_,rfl,grownCap_le_maxLen _ _ _ _ hn,.inr ⟨_,0,rfl,by show w.heap.size<(w.heap.push _).size; rw[Array.size_push]; omega,grownCap_ge _ _ _ _,fun i hi=>?_⟩⟩ S) hdd;generalize grownCap w bs.length 0 e=cap;have:∀(A:Array Value) (fr:Nat×Nat),(w.drew.alloc (.cells A e fr)).heap[w.heap.size]?=some (.cells A e fr):=fun A fr=>by
     show(w.heap.push (.cells A e fr))[w.heap.size]?=_;simp
    rw[ah4];unfold World.cell?;rw[this];simp only[Go.bytesRow,List.map_toArray];rw[Array.getElem?_append_left (by simpa using hi)];simp[hi,fO]
   cases hx
  cases hx
end Go.Sx
end
section
namespace eP
def one(s:UInt32):UInt32:=if s&&&1=1 then (s>>>1)^^^0xedb88320 else s>>>1
def many:Nat→UInt32→UInt32
 | 0,s=>s
 | n+1,s=>one (many n s)
def byte(s:UInt32)(c:UInt8):UInt32:=many 8 (s^^^c.toUInt32)
def reg(s:UInt32)(l:List UInt8):UInt32:=l.foldl byte s
def update(s:UInt32)(l:List UInt8):UInt32:=(reg (s^^^0xffffffff) l)^^^0xffffffff
def crc(ls:List (List UInt8)):UInt32:=ls.foldl update 0
def le4(s:UInt32):List UInt8:=[s.toUInt8,(s>>>8).toUInt8,(s>>>16).toUInt8,(s>>>24).toUInt8]
def app(b:List UInt8):List UInt8:=b++le4 (update 0 b)
end eP
end
section
namespace eP
theorem Xx(s:UInt32):s&&&1=0∨s&&&1=1:=by
 have h:(s&&&1).toNat=s.toNat%2:=by rw[aja]; simp[aji]
 rcases Nat.mod_two_eq_zero_or_one s.toNat with e | e
 ·exact .inl (ah2.1 (by rw[h,e]; rfl))
 exact .inr (ah2.1 (by rw[h,e]; rfl))
theorem NH(a b c:UInt32):(a^^^b)&&&c=(a&&&c)^^^(b&&&c):=by
 apply ajx.1;simp only[UInt32.toBitVec_and,UInt32.toBitVec_xor];apply BitVec.eq_of_getLsbD_eq;intro i _;simp only[BitVec.getLsbD_and,BitVec.getLsbD_xor];cases a.toBitVec.getLsbD i<;>cases b.toBitVec.getLsbD i<;>cases c.toBitVec.getLsbD i<;>rfl
theorem Xy(a b:UInt32)(k:UInt32):(a^^^b)>>>k=(a>>>k)^^^(b>>>k):=by
 apply ajx.1;simp only[UInt32.toBitVec_shiftRight,UInt32.toBitVec_xor];apply BitVec.eq_of_getLsbD_eq;intro i _;simp
theorem NI(a b:UInt32):one (a^^^b)=one a^^^one b:=by
 unfold one;rw[NH,Xy];rcases Xx a with ha | ha<;>rcases Xx b with hb | hb<;>rw[ha,hb]
 ·simp
 ·simp[ai9]
 ·simp only[show(1^^^0:UInt32)=1 from rfl,if_true,show ¬(0:UInt32)=1 by decide,if_false];rw[ai9,ai9,UInt32.xor_comm (b>>>1)]
 simp only[show ¬(1^^^1:UInt32)=1 by decide,if_true,if_false];rw[ai9,←ai9 3988292384,UInt32.xor_comm 3988292384 (b>>>1),ai9 (b>>>1),UInt32.xor_self,UInt32.xor_zero]
theorem Uu(n:Nat)(a b:UInt32):many n (a^^^b)=many n a^^^many n b:=by
 induction n with
 | zero=>rfl
 | succ n ih=>simp only[many,ih,NI]
theorem xA(m n:Nat)(s:UInt32):many (m+n) s=many m (many n s):=by
 induction m with
 | zero=>simp[many]
 | succ m ih=>rw[Nat.add_right_comm]; simp only[many,ih]
theorem Uw:one 0=0:=by decide
theorem P7(n:Nat):many n 0=0:=by
 induction n with
 | zero=>rfl
 | succ n ih=>simp only[many,ih,Uw]
theorem top(s:UInt32):(one s).toBitVec.getLsbD 31=s.toBitVec.getLsbD 0:=by
 have h0:s&&&1=1↔s.toBitVec.getLsbD 0=true:=by
  rw[←ajx];constructor
  ·intro h;have:=ahm (fun x=>BitVec.getLsbD x 0) h;simpa using this
  intro h;rcases Xx s with e | e
  ·rw[←ajx]at e;have:=ahm (fun x=>BitVec.getLsbD x 0) e;simp at this;simp[this]at h
  rw[e]
 unfold one;split
 ·rename_i h;rw[h0.1 h];simp
 rename_i h;have:s.toBitVec.getLsbD 0=false:=by
  cases e:s.toBitVec.getLsbD 0
  ·rfl
  exact(h (h0.2 e)).elim
 rw[this];simp
theorem Iz(s:UInt32)(h:one s=0):s=0:=by
 have ht:=top s;rw[h]at ht;have h0:s&&&1=0:=by
  rcases Xx s with e | e
  ·exact e
  rw[←ajx]at e;have:=ahm (fun x=>BitVec.getLsbD x 0) e;simp at this ht;simp[this]at ht
 have h1:s>>>1=0:=by
  unfold one at h;rw[h0]at h;simpa using h
 have e0:s.toNat%2=0:=by
  have:=ahm UInt32.toNat h0;rw[aja]at this; simpa[aji]using this
 have e1:s.toNat/2=0:=by
  have:=ahm UInt32.toNat h1;rw[ai3]at this; simpa[aiJ]using this
 exact ah2.1 (by simp; omega)
theorem xB(n:Nat)(s:UInt32)(h:many n s=0):s=0:=by
 induction n with
 | zero=>exact h
 | succ n ih=>exact ih (Iz _ h)
theorem Xz(x:UInt32)(h:x.toNat<2147483648):one (x<<<1)=x:=by
 have e:(x<<<1).toNat=2*x.toNat:=by
  rw[ajy]; simp[Nat.shiftLeft_eq]; omega
 have h0:¬(x<<<1)&&&1=1:=by
  intro h1;have:=ahm UInt32.toNat h1;rw[aja,e]at this;simp[aji]at this
 unfold one;rw[ahe h0];apply ah2.1;rw[ai3,e];simp[aiJ]
def bit(b:Bool):UInt32:=if b then 1 else 0
def feed(s:UInt32)(l:List Bool):UInt32:=l.foldl (fun s b=>one (s^^^bit b)) s
def word:List Bool→UInt32
 | []=>0
 | b::l=>bit b^^^(word l<<<1)
theorem yR(s:UInt32)(l m:List Bool):feed s (l++m)=feed (feed s l) m:=by simp[feed]
theorem Bo(n:Nat)(s:UInt32):feed s (List.replicate n false)=many n s:=by
 induction n generalizing s with
 | zero=>rfl
 | succ n ih =>
  show feed (one (s^^^bit false)) (List.replicate n false)=one (many n s);rw[ih];have:s^^^bit false=s:=by simp[bit]
  rw[this];have:=xA n 1 s;have h2:=xA 1 n s;rw[aiD]at h2;simpa[many]using this.symm.trans h2
theorem word_lt(l:List Bool)(n:Nat)(hn:l.length≤n)(h:n≤32):(word l).toNat<2^n:=by
 induction l generalizing n with
 | nil=>exact aie n
 | cons b l ih =>
  match n,hn with
  | n+1,hn =>
   have hw:=ih n (by simpa using hn) (by omega);have hp:(2:Nat)^(n+1)≤2^32:=ah1 (by omega) h;have e:(word l<<<1).toNat<2^(n+1):=by
    rw[ajy];refine aiO (Nat.mod_le _ _) ?_;simp[Nat.shiftLeft_eq,ahv]; omega
   show(bit b^^^(word l<<<1)).toNat<_;rw[UInt32.toNat_xor];refine Nat.xor_lt_two_pow ?_ e;have:(1:Nat)<2^(n+1):=Nat.one_lt_two_pow (by omega);cases b<;>simp[bit]<;>omega
theorem P8(l:List Bool)(h:l.length≤32)(s:UInt32):feed s l=many l.length (s^^^word l):=by
 induction l generalizing s with
 | nil=>simp[feed,many,word]
 | cons b l ih =>
  show feed (one (s^^^bit b)) l=many (l.length+1) (s^^^(bit b^^^(word l<<<1)));rw[ih (by simp at h; omega),xA l.length 1];congr 1;show _=one (s^^^(bit b^^^(word l<<<1)));rw[←ai9,NI (s^^^bit b),Xz];have:=word_lt l 31 (by simp at h; omega) (by omega);simpa using this
theorem Ux(l:List Bool):word (true::l)≠0:=by
 intro h;have:=ahm (fun x=>(x&&&1)) h;simp only[word]at this;rw[NH]at this;have e:(word l<<<1)&&&1=0:=by
  apply ah2.1;rw[aja,ajy];simp[aji,Nat.shiftLeft_eq]
 rw[e]at this;exact absurd this (by decide)
theorem KR(p:Nat)(l:List Bool)(q:Nat):feed 0 (List.replicate p false++(((true::l.take 31))++List.replicate q false))≠0:=by
 rw[yR,yR,Bo,Bo,P7,P8 _ (by simp; omega)];intro h;have:=xB _ _ (xB _ _ h);rw[UInt32.zero_xor]at this;exact Ux _ this
end eP
end
section
namespace eP
def ac5(c:UInt8):List Bool:=(List.range 8).map fun i=>c.toNat.testBit i
def bits(l:List UInt8):List Bool:=l.flatMap ac5
theorem Uy(z:UInt32)(h:z.toNat%2=0):(one z).toNat=z.toNat/2:=by
 have h0:¬z&&&1=1:=by
  intro h1;have:=ahm UInt32.toNat h1;rw[aja]at this;simp[aji]at this;omega
 unfold one;rw[ahe h0,ai3];simp[aiJ]
theorem P9(n:Nat):∀z y:UInt32,z.toNat=y.toNat*2^n→many n z=y:=by
 induction n with
 | zero=>intro z y h; exact ah2.1 (by show z.toNat=y.toNat; simpa using h)
 | succ n ih =>
  intro z y h;rw[xA n 1];rw[ahv,←ahB]at h;refine ih (one z) y ?_;rw[Uy z (by omega),h];omega
theorem Qa(y:UInt32)(h:y.toNat<16777216):many 8 (y<<<8)=y:=by
 apply P9;rw[ajy];simp[Nat.shiftLeft_eq];omega
theorem XA(x:UInt32):(x>>>8).toNat<16777216:=by
 have:=x.toNat_lt;rw[ai3];simp[aiJ];omega
theorem aaS(x:UInt32):x.toUInt8.toUInt32^^^((x>>>8)<<<8)=x:=by
 apply ah2.1;have hx:=x.toNat_lt;rw[UInt32.toNat_xor,ajy,ai3];have e1:x.toUInt8.toUInt32.toNat=x.toNat%2^8:=by simp
 have e2:(x.toNat>>>8)<<<8%2^32=(x.toNat>>>8)<<<8:=by
  simp[aiJ,Nat.shiftLeft_eq]; omega
 rw[e1];show x.toNat%2^8^^^(x.toNat>>>8)<<<8%2^32=x.toNat;rw[e2];apply Nat.eq_of_testBit_eq;intro i;rw[Nat.testBit_xor,Nat.testBit_mod_two_pow,Nat.testBit_shiftLeft,Nat.testBit_shiftRight];by_cases h:i<8
 ·simp[h,show ¬8≤i by omega]
 simp[h,show 8≤i by omega,show 8+(i-8)=i by omega]
theorem aaT(x:UInt32):x&&&255=x.toUInt8.toUInt32:=by
 apply ah2.1;rw[aja];simp;exact Nat.and_two_pow_sub_one_eq_mod x.toNat 8
theorem QZ(s:UInt32)(c:UInt8):byte s c=many 8 ((s&&&255)^^^c.toUInt32)^^^(s>>>8):=by
 show many 8 (s^^^c.toUInt32)=_;rw[aaT];conv=>lhs; rw[←aaS s]
 rw[ai9,UInt32.xor_comm _ c.toUInt32,←ai9,Uu,Qa _ (XA s)]
theorem agj(D:List Bool)(m:Nat)(hm:∀j,m+32≤j→D.getD j false=false)(hl:∀j,j<m→D.getD j false=false)(hs:∃j,D.getD j false=true):feed 0 D≠0:=by
 have ex:∃p,D.getD p false=true∧∀j,j<p→D.getD j false=false:=by
  obtain⟨j,hj⟩:=hs;induction j using Nat.strongRecOn with
  | _ j ih =>
   by_cases h:∃i,i<j∧D.getD i false=true
   ·obtain⟨i,hi,h⟩:=h; exact ih i hi h
   exact⟨j,hj,fun i hi=>by
    cases e:D.getD i false
    ·rfl
    exact(h ⟨i,hi,e⟩).elim⟩
 obtain⟨p,hp,hf⟩:=ex;have hpm:m≤p:=by
  rcases ahF p m with h | h
  ·rw[hl p h]at hp; exact absurd hp (by simp)
  exact h
 have hpl:p<D.length:=by
  rcases ahF p D.length with h | h
  ·exact h
  simp[List.getD,List.getElem?_eq_none h]at hp
 have e:D=List.replicate p false++((true::(D.drop (p+1)).take 31)++List.replicate (D.length-(p+32)) false):=by
  apply List.ext_getElem
  ·simp; omega
  intro j h1 h2;have hd:D[j]=D.getD j false:=by simp[List.getD,List.getElem?_eq_getElem h1]
  rw[hd];rcases ahF j p with hj | hj
  ·rw[ajb (by simpa using hj),hf j hj]; simp
  rw[ajs (by simpa using hj)];simp only[ai1];rcases Nat.eq_or_lt_of_le hj with rfl | hj'
  ·simpa using hp
  rcases ahF j (p+32)with h3 | h3
  ·rw[ajb (by simp; omega)];obtain⟨i,hi⟩:∃i,j-p=i+1:=⟨j-p-1,by omega⟩;simp only[hi,ajt,List.getElem_take,ajj];rw[←hd];congr 1; omega
  rw[ajs (by simp; omega),hm j (by omega)]; simp
 rw[e];exact KR p _ _
end eP
end
section
set_option maxHeartbeats 400000
namespace Go.Proofs.YtiafijffnejhoaaGreatDoor
open Go.RowKit
variable{α:Type}
theorem Uz(s:UInt32)(l:List UInt8)(c:UInt8):eP.reg s (l++[c])=eP.byte (eP.reg s l) c:=by simp[eP.reg]
theorem Gv(s:UInt32)(l:List UInt8)(k:Nat)(h:k<l.length):eP.reg s (l.take (k+1))=eP.byte (eP.reg s (l.take k)) l[k]:=by
 rw[take_snoc l k h,Uz]
theorem NJ(x:UInt32)(h:(bits .and .u32 (x.toNat:Int) 1==1)=true):bits .xor .u32 ((x.toNat:Int)/(2:Int)) 3988292384=((eP.one x).toNat:Int):=by
 rw[QS,abZ];rw[L6]at h;have h':x&&&1=1:=by
  apply ah2.1;simp only[ahu]at h;have:=h; simp only[UInt32.reduceToNat]; omega
 simp[eP.one,h']
theorem UA(x:UInt32)(h:(bits .and .u32 (x.toNat:Int) 1==1)=false):((x.toNat:Int)/(2:Int))=((eP.one x).toNat:Int):=by
 rw[QS];rw[L6]at h;have h':¬x&&&1=1:=by
  intro e; rw[e]at h; simp at h
 simp[eP.one,h']
theorem IB(s:UInt32)(v:Value)(l:List UInt8)(w:World)(hv:bZ w v l) :
  Calls Tryz.prog 96 #[aP s,v] w fun e w'=>e = .returned (aP (eP.update s l))∧w=w':=by
 obtain⟨a,cap,rfl,hm,ha⟩:=hv;have hl:=lT hm ha;have HA:=ag8 ha;clear ha;go_enter Tryz.func96,Tryz.ntmps96
 go_wp2
 go_loop [0,12] (fun s1 i=>∃k:Nat,k≤l.length∧i = .i k∧s1=aP (eP.reg (s^^^0xffffffff) (l.take k))) (fun _ i=>l.length-(intOf i).toNat)
 case atStart=>exact⟨0,ahk _,rfl,by rw[Yu,QU]; rfl⟩
 case round =>
  obtain⟨k,hk,rfl,rfl⟩:=hrel;by_cases hlt:k<l.length
  ·rcases HA.out with ⟨rfl,_⟩ | ⟨b,o,rfl,hb,hlc,hc⟩
   ·simp at hlt
   have hck:=hc k hlt;go_wp2
   go_loop [0,20] (fun s1 i=>∃j:Nat,j≤8∧i = .i j∧s1=aP (eP.many j ((eP.reg (s^^^0xffffffff) (l.take k))^^^l[k].toUInt32))) (fun _ i=>8-(intOf i).toNat)
   case atStart=>exact⟨0,ahk _,rfl,by rw[QT,Oq]; rfl⟩
   case round =>
    obtain⟨j,hj,rfl,rfl⟩:=hrel;by_cases hlt:j<8
    ·have E:Hid (eP.many (j+1) ((eP.reg (s^^^0xffffffff) (l.take k))^^^l[k].toUInt32)=eP.one (eP.many j ((eP.reg (s^^^0xffffffff) (l.take k))^^^l[k].toUInt32))):=rfl;generalize eP.many j ((eP.reg (s^^^0xffffffff) (l.take k))^^^l[k].toUInt32)=x at E;go_wp2
     ·go_round
      case rel=>exact⟨j+1,by omega,by go_num,by rw[E.out,NJ x ‹_›]⟩
      case measure=>simp[intOf]; omega
     go_round
     case rel=>exact⟨j+1,by omega,by go_num,by rw[E.out,UA x ‹_›]⟩
     case measure=>simp[intOf]; omega
    obtain rfl:j=8:=by omega
    go_wp2
    go_round
    case rel=>exact⟨k+1,by omega,by go_num,by rw[Gv _ _ _ ‹_›]; rfl⟩
    case measure=>simp[intOf]; omega
  obtain rfl:k=l.length:=by omega
  go_wp2
  go_ret
  exact⟨fU (by rw[Yu,QU]; simp only[eP.update]),rfl⟩
theorem UC(l:List (List UInt8))(k:Nat)(h:k<l.length):eP.crc (l.take (k+1))=eP.update (eP.crc (l.take k)) l[k]:=by
 rw[take_snoc l k h]; simp only[eP.crc,List.foldl_append,List.foldl_cons,List.foldl_nil]
theorem crc32(v:Value)(l:List (List UInt8))(w:World)(hv:V7 w v l) :
  Calls Tryz.prog 65 #[v] w fun e w'=>e = .returned (aP (eP.crc l))∧w=w':=by
 obtain⟨a,cap,rfl,hm,ha⟩:=hv;have hl:=Zz hm ha;have HA:=ag8 ha;clear ha;go_enter Tryz.func65,Tryz.ntmps65
 go_wp2
 go_loop [3,8] (fun s1 i=>∃k:Nat,k≤l.length∧i = .i k∧s1=aP (eP.crc (l.take k))) (fun _ i=>l.length-(intOf i).toNat)
 case atStart=>exact⟨0,ahk _,rfl,rfl⟩
 case round =>
  obtain⟨k,hk,rfl,rfl⟩:=hrel;by_cases hlt:k<l.length
  ·rcases HA.out with ⟨rfl,_⟩ | ⟨b,o,rfl,hb,hlc,hc⟩
   ·simp at hlt
   obtain⟨x,hck,hx⟩:=hc k hlt;go_wp2_with fail
   refine(IB _ x l[k] _ hx).mono ?_;rintro e w' ⟨rfl,rfl⟩;go_wp2
   go_round
   case rel=>exact⟨k+1,by omega,by go_num,by rw[UC l k ‹_›]⟩
   case measure=>simp[intOf]; omega
  obtain rfl:k=l.length:=by omega
  go_wp2
  go_ret
  exact⟨fU (by simp only[ahX]),rfl⟩
theorem UD(x:UInt32)(h:((x.toNat:Int)%2==1)=true):bits .xor .u32 ((x.toNat:Int)/2%4294967296) 3988292384=((eP.one x).toNat:Int):=by
 have e:((x.toNat:Int)/2%4294967296)=(x.toNat:Int)/2:=by have:=x.toNat_lt; omega
 rw[e];exact NJ x (by rw[L6,LZ]; exact h)
theorem XB(x:UInt32)(h:((x.toNat:Int)%2==1)=false):((x.toNat:Int)/2%4294967296)=((eP.one x).toNat:Int):=by
 have e:((x.toNat:Int)/2%4294967296)=(x.toNat:Int)/2:=by have:=x.toNat_lt; omega
 rw[e];exact UA x (by rw[L6,LZ]; exact h)
theorem ZI(s:UInt32)(w:World) :
  Calls Tryz.prog 53 #[aP s] w fun e w'=>e = .returned (aP (eP.many 8 s))∧w=w':=by
 go_enter Tryz.func53,Tryz.ntmps53
 go_wp2
 go_loop [0,3] (fun s1 i=>∃j:Nat,j≤8∧i = .i j∧s1=aP (eP.many j s)) (fun _ i=>8-(intOf i).toNat)
 case atStart=>exact⟨0,ahk _,rfl,rfl⟩
 case round =>
  obtain⟨j,hj,rfl,rfl⟩:=hrel;by_cases hlt:j<8
  ·have E:Hid (eP.many (j+1) s=eP.one (eP.many j s)):=rfl;generalize eP.many j s=x at E;go_wp2
   ·go_round
    case rel=>exact⟨j+1,by omega,by go_num,by rw[E.out,UD x ‹_›]⟩
    case measure=>simp[intOf]; omega
   go_round
   case rel=>exact⟨j+1,by omega,by go_num,by rw[E.out,XB x ‹_›]⟩
   case measure=>simp[intOf]; omega
  obtain rfl:j=8:=by omega
  go_wp2
  go_ret
  exact⟨rfl,rfl⟩
end Go.Proofs.YtiafijffnejhoaaGreatDoor
end
