/- Pixels: the decoder. A literal string as bytes, as two -/
import Derived.Test.YtapmgonflgahbaaGreatDoorPk33
import Derived.Lib.SlBytesConst
import Derived.Laws.AppendOwn
set_option linter.unusedVariables false
section
namespace Go.Proofs.YtapmgonflgahbaaGreatDoor
open Go.RowKit
variable{α:Type}{K:Nat}
namespace Px
theorem VX{l:List UInt8}{p:Nat}(hp:p≤l.length):En.yS l (p:Int)=match En.lK 9 (l.drop p)with | .ok (n,k)=>(n,p+k,0) | .error e=>(0,0,e):=by
 unfold En.yS;rw[ah7 (by omega)]; rfl
theorem ok1{b:List UInt8}{p k x:Nat}(hp:p≤b.length)(hu:En.yS b (p:Int)=(k,x,0)):∃c,En.lK 9 (b.drop p) = .ok (k,c)∧x=p+c∧x≤b.length∧1≤c:=by
 rw[VX hp]at hu;cases hs:En.lK 9 (b.drop p)with
 | error e=>rw[hs]at hu; simp only[aie]at hu; have:=En.Oa 9 _ _ hs; omega
 | ok r =>
  obtain⟨k',c⟩:=r;rw[hs]at hu;simp only[aie]at hu;obtain⟨-,h1,h2,-⟩:=En.Oc hs;simp only[List.length_drop]at h2;exact⟨c,by rw[hu.1],by omega,by omega,h1⟩
end Px
end Go.Proofs.YtapmgonflgahbaaGreatDoor
end
section
namespace Go.Sx
open Go.Proofs.YtapmgonflgahbaaGreatDoor Go.RowKit Go.Rel
variable{P:Program}{ops:Array Oper}{Q:Exit→Act→World→Prop}{w0 w:World}{a:Act}{os:List Oper}{n:Nat}{l:List (Nat×Value)}{bl:List (Nat×List Value)}{vs:List fG}
def VY(os:List Oper):Option (TypeId×TypeId×Nat×Nat):=match os with
 | _::o::_=>(match o.guard,o.dst,o.op with
  | none,some d,.convert s t (.tmp x)=>some (s,t,x,d)
  | _,_,_=>none)
 | _=>none
theorem MH{w:World}{A:List Value}{e:TypeId}{m:Nat}{fr:Nat×Nat}(hA:A.length=m)(hm:m≤maxLen)(h1:A.all (·.oneCell')=true):dS (w.alloc (.cells A.toArray e fr)) 1 (.slice (some ⟨w.heap.size,0,none⟩) m m) m A:=by
 refine⟨by omega,fun u hu=>by rw[aiA]at h1; exact h1 u hu,.inr ⟨w.heap.size,0,m,rfl,by simp,ah9 _,hm,fun j u hj=>?_⟩⟩;have:(w.alloc (.cells A.toArray e fr)).heap[w.heap.size]?=some (.cells A.toArray e fr):=by
  show(w.heap.push (.cells A.toArray e fr))[w.heap.size]?=_;simp
 rw[ai0];unfold World.cell?;rw[this];simpa using hj
theorem lit(S:St w0 a w n l bl vs)(d1 d2 m:Nat)(A:List Value)(t e:TypeId)(ht:P.underlying t=some (.slice e))(he:P.underlying e=some (.int .u8))
  (next:∀{a' w' b},Ext w w'→dS w' 1 (.slice (some ⟨b,0,none⟩) m m) m A→St w0 a' w' n ((d2,.slice (some ⟨b,0,none⟩) m m)::l) bl vs→wpList P ops Q (os.drop 2) a' w')
  (hl:(l.lookup d1).isNone=true:=by kernel_rfl) (h12:(d1==d2)=false:=by rfl)
  (hx:∀r,yC P r os l=some (A,e,.slice (some ⟨r,0,none⟩) m m,some d1):=by intro r; kernel_rfl) (h2:VY os=some (t,t,d1,d2):=by kernel_rfl) (hA:A.length=m:=by rfl) (hm:m≤maxLen:=by decide) (h1:A.all (·.oneCell')=true:=by kernel_rfl)
  (hd1:zH n (some d1)=true:=by rfl) (hd2:zH n (some d2)=true:=by rfl):wpList P ops Q os a w:=by
 have hx:=hx w.heap.size;cases os with
 | nil=>cases h2
 | cons o os =>
 cases os with
 | nil=>cases h2
 | cons o2 os =>
  unfold yC at hx;unfold VY at h2;simp only at hx h2;split at hx
  ·rename_i A' ty k' hg hav hev;split at hx
   ·rename_i v hv;simp only[ah8,aie]at hx;obtain⟨rfl,rfl,rfl,hdst⟩:=hx;simp only[aiX]at hav;have hc:execOp a.eval o=execOp (vZ (lift l) []) o:=by
     refine execOp_congr o (fun cs b e1=>by rw[e1]at hav; cases hav.1) fun x hx=>?_;have h2:=hav.2;simp only[ajn,aj8]at h2;obtain⟨v,hv⟩:=aja.1 (h2 x hx);rw[fU (Std.act a) (iR (bU S.s) o x hx) (p:=[]) rfl hv];simp[vZ,hv]
    have hv':ev0 P k'=some (.value (.slice (some ⟨w.heap.size,0,none⟩) m m)):=by
     unfold gJ at hv;split at hv
     ·rename_i h; obtain h2:=aik hv; rw[h]; simp only[BJ.val.injEq]at h2; rw[h2]
     ·cases hv
     cases hv
    have hrun:(execOp a.eval o).run P w = .ok (.value (.slice (some ⟨w.heap.size,0,none⟩) m m)) (w.alloc (.cells A'.toArray ty)):=by rw[hc,lF hev,lQ hv']
    split at h2
    ·rename_i d s' t' x hg2 adW hop2;simp only[ah8,aie]at h2;obtain⟨rfl,rfl,rfl,rfl⟩:=h2;unfold wpList;rw[aib (by simp[Region.wanted,hg])];left;unfold Oper.wp;rw[hrun];simp only[Oper.upon];rw[hdst];have hs1:=vY (d:=some x) S.s hd1 (.slice (some ⟨w.heap.size,0,none⟩) m m);have ex:(a.put (some x) (.slice (some ⟨w.heap.size,0,none⟩) m m)).eval (.tmp x) = .slice (some ⟨w.heap.size,0,none⟩) m m:=hs1.has x _ (by simp[JA]);have hrun2:(execOp (a.put (some x) (.slice (some ⟨w.heap.size,0,none⟩) m m)).eval o2).run P (w.alloc (.cells A'.toArray ty)) = .ok (.value (.slice (some ⟨w.heap.size,0,none⟩) m m)) (w.alloc (.cells A'.toArray ty (A'.toArray.size,A'.toArray.size+1))):=by
      unfold execOp;rw[hop2];simp only[ex];rw[aiU,Go.Lib.run_convert_bytes_const w _ ty A'.toArray m m ht he];rfl
     unfold wpList;rw[aib (by simp[Region.wanted,hg2])];left;unfold Oper.wp;rw[hrun2];simp only[Oper.upon];rw[adW];have hs2:=vY (d:=some d) hs1 hd2 (.slice (some ⟨w.heap.size,0,none⟩) m m);have hE:Ext w (w.alloc (.cells A'.toArray ty (A'.toArray.size,A'.toArray.size+1))):=aI _ _;refine next hE (MH hA hm h1) ((S.grow hE).act ⟨hs2.size,hs2.defers,fun i v hi=>hs2.has i v ?_⟩);simp only[JA,aiT]at hi ⊢;by_cases hid:i=d
     ·subst hid; simpa using hi
     have e1:(i==d)=false:=by simpa using hid
     simp only[e1]at hi ⊢;by_cases hix:i=x
     ·subst hix;rw[Option.isNone_iff_eq_none.1 hl]at hi; cases hi
     have e2:(i==x)=false:=by simpa using hix
     simpa only[e2]using hi
    cases h2
   cases hx
  cases hx
def aar(os:List Oper)(l:List (Nat×Value)):Option (TypeId×TypeId×ByteArray×Nat):=match os with
 | o::_=>(match o.guard,o.dst,o.op with
  | none,some d,.convert s t x=>(match rd (lift l) [] x with
   | some (.string z)=>some (s,t,z,d)
   | _=>none)
  | _,_,_=>none)
 | _=>none
theorem bytesOf(S:St w0 a w n l bl vs)(d:Nat)(bs:List UInt8){src dst e:TypeId}(hs:P.underlying src=some .string)(hd:P.underlying dst=some (.slice e))(he:P.underlying e=some (.int .u8))(hn:bs.length≤maxLen)
  (next:∀{a' w' b cap},Ext w w'→bH w' (.slice (some ⟨b,0,none⟩) bs.length cap) bs→St w0 a' w' n ((d,.slice (some ⟨b,0,none⟩) bs.length cap)::l) bl vs→wpList P ops Q (os.drop 1) a' w')
  (hx:aar os l=some (src,dst,⟨bs.toArray⟩,d):=by kernel_rfl) (hdd:zH n (some d)=true:=by rfl):wpList P ops Q os a w:=by
 cases os with
 | nil=>cases hx
 | cons o os =>
  unfold aar at hx;simp only at hx;split at hx
  ·rename_i d' s' t' x hg hdst hop;split at hx
   ·rename_i z hxx;simp only[ah8,aie]at hx;obtain⟨rfl,rfl,rfl,rfl⟩:=hx;have hst:=iR (bU S.s) o;have ex:a.eval x = .string ⟨bs.toArray⟩:=fU (Std.act a) (hst x (by rw[hop]; simp[Op.operands])) (p:=[]) rfl hxx;have hsz:(⟨bs.toArray⟩:ByteArray).size=bs.length:=by simp[ByteArray.size]
    have hr:=Go.run_bytes_of_string (P:=P) w s' t' e ⟨bs.toArray⟩ hs hd he;rw[hsz]at hr;have hE:Ext w (w.drew.alloc (.cells (Go.bytesRow ⟨bs.toArray⟩ (grownCap w bs.length 0 e)) e ((Go.bytesRow ⟨bs.toArray⟩ (grownCap w bs.length 0 e)).size,(Go.bytesRow ⟨bs.toArray⟩ (grownCap w bs.length 0 e)).size+1))):=Ext.trans' (below_drewN (ais _ _) 1) (aI _ _);refine adK S d' _ rfl hg hdst (by unfold execOp; rw[hop]; simp only[ex]; rw[aiU,hr]; rfl) hE (fun S=>next hE ⟨_,_,rfl,grownCap_le_maxLen _ _ _ _ hn,.inr ⟨_,0,rfl,by show w.heap.size<(w.heap.push _).size; rw[Array.size_push]; omega,grownCap_ge _ _ _ _,fun i hi=>?_⟩⟩ S) hdd;generalize grownCap w bs.length 0 e=cap;have:∀(A:Array Value) (fr:Nat×Nat),(w.drew.alloc (.cells A e fr)).heap[w.heap.size]?=some (.cells A e fr):=fun A fr=>by
     show(w.heap.push (.cells A e fr))[w.heap.size]?=_;simp
    rw[ai0];unfold World.cell?;rw[this];simp only[Go.bytesRow,List.map_toArray];rw[Array.getElem?_append_left (by simpa using hi)];simp[hi,dQ]
   cases hx
  cases hx
end Go.Sx
end
section
namespace dL
def one(s:UInt32):UInt32:=if s&&&1=1 then (s>>>1)^^^0xedb88320 else s>>>1
def many:Nat→UInt32→UInt32
 | 0,s=>s
 | n+1,s=>one (many n s)
def byte(s:UInt32)(c:UInt8):UInt32:=many 8 (s^^^c.toUInt32)
def reg(s:UInt32)(l:List UInt8):UInt32:=l.foldl byte s
def update(s:UInt32)(l:List UInt8):UInt32:=(reg (s^^^0xffffffff) l)^^^0xffffffff
def crc(ls:List (List UInt8)):UInt32:=ls.foldl update 0
def le4(s:UInt32):List UInt8:=[s.toUInt8,(s>>>8).toUInt8,(s>>>16).toUInt8,(s>>>24).toUInt8]
def app(b:List UInt8):List UInt8:=b++le4 (update 0 b)
end dL
end
section
namespace dL
theorem Y3(s:UInt32):s&&&1=0∨s&&&1=1:=by
 have h:(s&&&1).toNat=s.toNat%2:=by rw[aj1]; simp[Nat.and_one_is_mod]
 rcases Nat.mod_two_eq_zero_or_one s.toNat with e | e
 ·exact .inl (aiS.1 (by rw[h,e]; rfl))
 exact .inr (aiS.1 (by rw[h,e]; rfl))
theorem OJ(a b c:UInt32):(a^^^b)&&&c=(a&&&c)^^^(b&&&c):=by
 apply akw.1;simp only[UInt32.toBitVec_and,UInt32.toBitVec_xor];apply BitVec.eq_of_getLsbD_eq;intro i _;simp only[BitVec.getLsbD_and,BitVec.getLsbD_xor];cases a.toBitVec.getLsbD i<;>cases b.toBitVec.getLsbD i<;>cases c.toBitVec.getLsbD i<;>rfl
theorem OL(a b:UInt32)(k:UInt32):(a^^^b)>>>k=(a>>>k)^^^(b>>>k):=by
 apply akw.1;simp only[UInt32.toBitVec_shiftRight,UInt32.toBitVec_xor];apply BitVec.eq_of_getLsbD_eq;intro i _;simp
theorem Gt(a b:UInt32):one (a^^^b)=one a^^^one b:=by
 unfold one;rw[OJ,OL];rcases Y3 a with ha | ha<;>rcases Y3 b with hb | hb<;>rw[ha,hb]
 ·simp
 ·simp[UInt32.xor_assoc]
 ·simp only[show(1^^^0:UInt32)=1 from rfl,if_true,show ¬(0:UInt32)=1 by decide,if_false];rw[ajb,ajb,UInt32.xor_comm (b>>>1)]
 simp only[show ¬(1^^^1:UInt32)=1 by decide,if_true,if_false];rw[ajb,←ajb 3988292384,UInt32.xor_comm 3988292384 (b>>>1),ajb (b>>>1),UInt32.xor_self,UInt32.xor_zero]
theorem BZ(n:Nat)(a b:UInt32):many n (a^^^b)=many n a^^^many n b:=by
 induction n with
 | zero=>rfl
 | succ n ih=>simp only[many,ih,Gt]
theorem oz(m n:Nat)(s:UInt32):many (m+n) s=many m (many n s):=by
 induction m with
 | zero=>simp[many]
 | succ m ih=>rw[Nat.add_right_comm]; simp only[many,ih]
theorem VZ:one 0=0:=by decide
theorem Ro(n:Nat):many n 0=0:=by
 induction n with
 | zero=>rfl
 | succ n ih=>simp only[many,ih,VZ]
theorem top(s:UInt32):(one s).toBitVec.getLsbD 31=s.toBitVec.getLsbD 0:=by
 have h0:s&&&1=1↔s.toBitVec.getLsbD 0=true:=by
  rw[←akw];constructor
  ·intro h;have:=aic (fun x=>BitVec.getLsbD x 0) h;simpa using this
  intro h;rcases Y3 s with e | e
  ·rw[←akw]at e;have:=aic (fun x=>BitVec.getLsbD x 0) e;simp at this;simp[this]at h
  rw[e]
 unfold one;split
 ·rename_i h;rw[h0.1 h];simp
 rename_i h;have:s.toBitVec.getLsbD 0=false:=by
  cases e:s.toBitVec.getLsbD 0
  ·rfl
  exact(h (h0.2 e)).elim
 rw[this];simp
theorem JB(s:UInt32)(h:one s=0):s=0:=by
 have ht:=top s;rw[h]at ht;have h0:s&&&1=0:=by
  rcases Y3 s with e | e
  ·exact e
  rw[←akw]at e;have:=aic (fun x=>BitVec.getLsbD x 0) e;simp at this ht;simp[this]at ht
 have h1:s>>>1=0:=by
  unfold one at h;rw[h0]at h;simpa using h
 have e0:s.toNat%2=0:=by
  have:=aic UInt32.toNat h0;rw[aj1]at this; simpa[aki]using this
 have e1:s.toNat/2=0:=by
  have:=aic UInt32.toNat h1;rw[ajk]at this; simpa[ai5]using this
 exact aiS.1 (by simp; omega)
theorem rH(n:Nat)(s:UInt32)(h:many n s=0):s=0:=by
 induction n with
 | zero=>exact h
 | succ n ih=>exact ih (JB _ h)
theorem JC(a b:UInt32)(h:a^^^b=0):a=b:=by
 have:=aic (· ^^^ b) h;simpa[ajb]using this
theorem V3(n:Nat)(a b:UInt32)(h:many n a=many n b):a=b:=by
 apply JC;apply rH n;rw[BZ,h,UInt32.xor_self]
theorem Y4(x:UInt32)(h:x.toNat<2147483648):one (x<<<1)=x:=by
 have e:(x<<<1).toNat=2*x.toNat:=by
  rw[akf]; simp[Nat.shiftLeft_eq]; omega
 have h0:¬(x<<<1)&&&1=1:=by
  intro h1;have:=aic UInt32.toNat h1;rw[aj1,e]at this;simp[Nat.and_one_is_mod]at this
 unfold one;rw[ah7 h0];apply aiS.1;rw[ajk,e];simp[Nat.shiftRight_eq_div_pow]
def bit(b:Bool):UInt32:=if b then 1 else 0
def feed(s:UInt32)(l:List Bool):UInt32:=l.foldl (fun s b=>one (s^^^bit b)) s
def word:List Bool→UInt32
 | []=>0
 | b::l=>bit b^^^(word l<<<1)
theorem Y5(a b:Bool):bit (a ^^ b)=bit a^^^bit b:=by cases a<;>cases b<;>rfl
theorem tH(s:UInt32)(l m:List Bool):feed s (l++m)=feed (feed s l) m:=by simp[feed]
theorem V4(l:List (Bool×Bool)):∀s t:UInt32,feed (s^^^t) (l.map fun p=>p.1 ^^ p.2)=feed s (l.map (·.1))^^^feed t (l.map (·.2)):=by
 induction l with
 | nil=>intro s t; rfl
 | cons p l ih =>
  intro s t;show feed (one ((s^^^t)^^^bit (p.1 ^^ p.2))) (l.map fun p=>p.1 ^^ p.2)=feed (one (s^^^bit p.1)) _^^^feed (one (t^^^bit p.2)) _;rw[←ih,←Gt,Y5];congr 2;rw[ajb,ajb];congr 1;rw[←ajb,UInt32.xor_comm t,ajb]
theorem Cb(n:Nat)(s:UInt32):feed s (List.replicate n false)=many n s:=by
 induction n generalizing s with
 | zero=>rfl
 | succ n ih =>
  show feed (one (s^^^bit false)) (List.replicate n false)=one (many n s);rw[ih];have:s^^^bit false=s:=by simp[bit]
  rw[this];have:=oz n 1 s;have h2:=oz 1 n s;rw[ajI]at h2;simpa[many]using this.symm.trans h2
theorem word_lt(l:List Bool)(n:Nat)(hn:l.length≤n)(h:n≤32):(word l).toNat<2^n:=by
 induction l generalizing n with
 | nil=>exact ajh n
 | cons b l ih =>
  match n,hn with
  | n+1,hn =>
   have hw:=ih n (by simpa using hn) (by omega);have hp:(2:Nat)^(n+1)≤2^32:=aiV (by omega) h;have e:(word l<<<1).toNat<2^(n+1):=by
    rw[akf];refine ajQ (Nat.mod_le _ _) ?_;simp[Nat.shiftLeft_eq,Nat.pow_succ]; omega
   show(bit b^^^(word l<<<1)).toNat<_;rw[UInt32.toNat_xor];refine Nat.xor_lt_two_pow ?_ e;have:(1:Nat)<2^(n+1):=Nat.one_lt_two_pow (by omega);cases b<;>simp[bit]<;>omega
theorem EG(l:List Bool)(h:l.length≤32)(s:UInt32):feed s l=many l.length (s^^^word l):=by
 induction l generalizing s with
 | nil=>simp[feed,many,word]
 | cons b l ih =>
  show feed (one (s^^^bit b)) l=many (l.length+1) (s^^^(bit b^^^(word l<<<1)));rw[ih (by simp at h; omega),oz l.length 1];congr 1;show _=one (s^^^(bit b^^^(word l<<<1)));rw[←ajb,Gt (s^^^bit b),Y4];have:=word_lt l 31 (by simp at h; omega) (by omega);simpa using this
theorem V5(l:List Bool):word (true::l)≠0:=by
 intro h;have:=aic (fun x=>(x&&&1)) h;simp only[word]at this;rw[OJ]at this;have e:(word l<<<1)&&&1=0:=by
  apply aiS.1;rw[aj1,akf];simp[Nat.and_one_is_mod,Nat.shiftLeft_eq]
 rw[e]at this;exact absurd this (by decide)
theorem MI(p:Nat)(l:List Bool)(q:Nat):feed 0 (List.replicate p false++(((true::l.take 31))++List.replicate q false))≠0:=by
 rw[tH,tH,Cb,Cb,Ro,EG _ (by simp; omega)];intro h;have:=rH _ _ (rH _ _ h);rw[UInt32.zero_xor]at this;exact V5 _ this
end dL
end
