/- Pixels: the decoder. A literal string as bytes, as two -/
import Derived.Test.YtapmgonflgahbaaGreatDoorPk27
import Derived.Lib.SlBytesConst
import Derived.Laws.AppendOwn
set_option linter.unusedVariables false
section
namespace Go.Proofs.YtapmgonflgahbaaGreatDoor
open Go.RowKit
variable{α:Type}{K:Nat}
namespace Px
theorem UC{l:List UInt8}{p:Nat}(hp:p≤l.length):En.BU l (p:Int)=match En.mM 9 (l.drop p)with | .ok (n,k)=>(n,p+k,0) | .error e=>(0,0,e):=by
 unfold En.BU;rw[awj (by omega)]; rfl
theorem ok1{b:List UInt8}{p k x:Nat}(hp:p≤b.length)(hu:En.BU b (p:Int)=(k,x,0)):∃c,En.mM 9 (b.drop p) = .ok (k,c)∧x=p+c∧x≤b.length∧1≤c:=by
 rw[UC hp]at hu;cases hs:En.mM 9 (b.drop p)with
 | error e=>rw[hs]at hu; simp only[awo]at hu; have:=En.Et 9 _ _ hs; omega
 | ok r =>
  obtain⟨k',c⟩:=r;rw[hs]at hu;simp only[awo]at hu;obtain⟨-,h1,h2,-⟩:=En.Eu hs;simp only[ayp]at h2;exact⟨c,by rw[hu.1],by omega,by omega,h1⟩
end Px
end Go.Proofs.YtapmgonflgahbaaGreatDoor
end
section
namespace Go.Sx
open Go.Proofs.YtapmgonflgahbaaGreatDoor Go.RowKit Go.Rel
variable{P:Program}{ops:Array Oper}{Q:Exit→Act→World→Prop}{w0 w:World}{a:Act}{os:List Oper}{n:Nat}{l:List (Nat×Value)}{bl:List (Nat×List Value)}{vs:List gJ}
def acz(os:List Oper):Option (TypeId×TypeId×Nat×Nat):=match os with
 | _::o::_=>(match o.guard,o.dst,o.op with
  | none,some d,.convert s t (.tmp x)=>some (s,t,x,d)
  | _,_,_=>none)
 | _=>none
theorem UD{w:World}{A:List Value}{e:TypeId}{m:Nat}{fr:Nat×Nat}(hA:A.length=m)(hm:m≤maxLen)(h1:A.all (·.oneCell')=true):fH (w.alloc (.cells A.toArray e fr)) 1 (.slice (some ⟨w.heap.size,0,none⟩) m m) m A:=by
 refine⟨by omega,fun u hu=>by rw[awQ]at h1; exact h1 u hu,.inr ⟨w.heap.size,0,m,rfl,by simp,awm _,hm,fun j u hj=>?_⟩⟩;have:(w.alloc (.cells A.toArray e fr)).heap[w.heap.size]?=some (.cells A.toArray e fr):=by
  show(w.heap.push (.cells A.toArray e fr))[w.heap.size]?=_;simp
 rw[axh];unfold World.cell?;rw[this];simpa using hj
theorem lit(S:St w0 a w n l bl vs)(d1 d2 m:Nat)(A:List Value)(t e:TypeId)(ht:P.underlying t=some (.slice e))(he:P.underlying e=some (.int .u8))
  (next:∀{a' w' b},Ext w w'→fH w' 1 (.slice (some ⟨b,0,none⟩) m m) m A→St w0 a' w' n ((d2,.slice (some ⟨b,0,none⟩) m m)::l) bl vs→wpList P ops Q (os.drop 2) a' w')
  (hl:(l.lookup d1).isNone=true:=by kernel_rfl) (h12:(d1==d2)=false:=by rfl)
  (hx:∀r,Cc P r os l=some (A,e,.slice (some ⟨r,0,none⟩) m m,some d1):=by intro r; kernel_rfl) (h2:acz os=some (t,t,d1,d2):=by kernel_rfl) (hA:A.length=m:=by rfl) (hm:m≤maxLen:=by decide) (h1:A.all (·.oneCell')=true:=by kernel_rfl)
  (hd1:Cb n (some d1)=true:=by rfl) (hd2:Cb n (some d2)=true:=by rfl):wpList P ops Q os a w:=by
 have hx:=hx w.heap.size;cases os with
 | nil=>cases h2
 | cons o os =>
 cases os with
 | nil=>cases h2
 | cons o2 os =>
  unfold Cc at hx;unfold acz at h2;simp only at hx h2;split at hx
  ·rename_i A' ty k' hg hav hev;split at hx
   ·rename_i v hv;simp only[awn,awo]at hx;obtain⟨rfl,rfl,rfl,hdst⟩:=hx;simp only[aw9]at hav;have hc:execOp a.eval o=execOp (zK (lift l) []) o:=by
     refine execOp_congr o (fun cs b e1=>by rw[e1]at hav; cases hav.1) fun x hx=>?_;have h2:=hav.2;simp only[axE,ayv]at h2;obtain⟨v,hv⟩:=axx.1 (h2 x hx);rw[iU (Std.act a) (jE (dD S.s) o x hx) (p:=[]) rfl hv];simp[zK,hv]
    have hv':ev0 P k'=some (.value (.slice (some ⟨w.heap.size,0,none⟩) m m)):=by
     unfold jg at hv;split at hv
     ·rename_i h; obtain h2:=awx hv; rw[h]; simp only[Gj.val.injEq]at h2; rw[h2]
     ·cases hv
     cases hv
    have hrun:(execOp a.eval o).run P w = .ok (.value (.slice (some ⟨w.heap.size,0,none⟩) m m)) (w.alloc (.cells A'.toArray ty)):=by rw[hc,oU hev,pI hv']
    split at h2
    ·rename_i d s' t' x hg2 am4 hop2;simp only[awn,awo]at h2;obtain⟨rfl,rfl,rfl,rfl⟩:=h2;unfold wpList;rw[awl (by simp[Region.wanted,hg])];left;unfold Oper.wp;rw[hrun];simp only[Oper.upon];rw[hdst];have hs1:=xB (d:=some x) S.s hd1 (.slice (some ⟨w.heap.size,0,none⟩) m m);have ex:(a.put (some x) (.slice (some ⟨w.heap.size,0,none⟩) m m)).eval (.tmp x) = .slice (some ⟨w.heap.size,0,none⟩) m m:=hs1.has x _ (by simp[LM]);have hrun2:(execOp (a.put (some x) (.slice (some ⟨w.heap.size,0,none⟩) m m)).eval o2).run P (w.alloc (.cells A'.toArray ty)) = .ok (.value (.slice (some ⟨w.heap.size,0,none⟩) m m)) (w.alloc (.cells A'.toArray ty (A'.toArray.size,A'.toArray.size+1))):=by
      unfold execOp;rw[hop2];simp only[ex];rw[aw7,Go.Lib.run_convert_bytes_const w _ ty A'.toArray m m ht he];rfl
     unfold wpList;rw[awl (by simp[Region.wanted,hg2])];left;unfold Oper.wp;rw[hrun2];simp only[Oper.upon];rw[am4];have hs2:=xB (d:=some d) hs1 hd2 (.slice (some ⟨w.heap.size,0,none⟩) m m);have hE:Ext w (w.alloc (.cells A'.toArray ty (A'.toArray.size,A'.toArray.size+1))):=aF _ _;refine next hE (UD hA hm h1) ((S.grow hE).act ⟨hs2.size,hs2.defers,fun i v hi=>hs2.has i v ?_⟩);simp only[LM,aw8]at hi ⊢;by_cases hid:i=d
     ·subst hid; simpa using hi
     have e1:(i==d)=false:=by simpa using hid
     simp only[e1]at hi ⊢;by_cases hix:i=x
     ·subst hix;rw[Option.isNone_iff_eq_none.1 hl]at hi; cases hi
     have e2:(i==x)=false:=by simpa using hix
     simpa only[e2]using hi
    cases h2
   cases hx
  cases hx
def agE(os:List Oper)(l:List (Nat×Value)):Option (TypeId×TypeId×ByteArray×Nat):=match os with
 | o::_=>(match o.guard,o.dst,o.op with
  | none,some d,.convert s t x=>(match rd (lift l) [] x with
   | some (.string z)=>some (s,t,z,d)
   | _=>none)
  | _,_,_=>none)
 | _=>none
theorem bytesOf(S:St w0 a w n l bl vs)(d:Nat)(bs:List UInt8){src dst e:TypeId}(hs:P.underlying src=some .string)(hd:P.underlying dst=some (.slice e))(he:P.underlying e=some (.int .u8))(hn:bs.length≤maxLen)
  (next:∀{a' w' b cap},Ext w w'→bG w' (.slice (some ⟨b,0,none⟩) bs.length cap) bs→St w0 a' w' n ((d,.slice (some ⟨b,0,none⟩) bs.length cap)::l) bl vs→wpList P ops Q (os.drop 1) a' w')
  (hx:agE os l=some (src,dst,⟨bs.toArray⟩,d):=by kernel_rfl) (hdd:Cb n (some d)=true:=by rfl):wpList P ops Q os a w:=by
 cases os with
 | nil=>cases hx
 | cons o os =>
  unfold agE at hx;simp only at hx;split at hx
  ·rename_i d' s' t' x hg hdst hop;split at hx
   ·rename_i z hxx;simp only[awn,awo]at hx;obtain⟨rfl,rfl,rfl,rfl⟩:=hx;have hst:=jE (dD S.s) o;have ex:a.eval x = .string ⟨bs.toArray⟩:=iU (Std.act a) (hst x (by rw[hop]; simp[Op.operands])) (p:=[]) rfl hxx;have hsz:(⟨bs.toArray⟩:ByteArray).size=bs.length:=by simp[ByteArray.size]
    have hr:=Go.run_bytes_of_string (P:=P) w s' t' e ⟨bs.toArray⟩ hs hd he;rw[hsz]at hr;have hE:Ext w (w.drew.alloc (.cells (Go.bytesRow ⟨bs.toArray⟩ (grownCap w bs.length 0 e)) e ((Go.bytesRow ⟨bs.toArray⟩ (grownCap w bs.length 0 e)).size,(Go.bytesRow ⟨bs.toArray⟩ (grownCap w bs.length 0 e)).size+1))):=Ext.trans' (below_drewN (awD _ _) 1) (aF _ _);refine amT S d' _ rfl hg hdst (by unfold execOp; rw[hop]; simp only[ex]; rw[aw7,hr]; rfl) hE (fun S=>next hE ⟨_,_,rfl,grownCap_le_maxLen _ _ _ _ hn,.inr ⟨_,0,rfl,by show w.heap.size<(w.heap.push _).size; rw[Array.size_push]; omega,grownCap_ge _ _ _ _,fun i hi=>?_⟩⟩ S) hdd;generalize grownCap w bs.length 0 e=cap;have:∀(A:Array Value) (fr:Nat×Nat),(w.drew.alloc (.cells A e fr)).heap[w.heap.size]?=some (.cells A e fr):=fun A fr=>by
     show(w.heap.push (.cells A e fr))[w.heap.size]?=_;simp
    rw[axh];unfold World.cell?;rw[this];simp only[Go.bytesRow,List.map_toArray];rw[Array.getElem?_append_left (by simpa using hi)];simp[hi,fA]
   cases hx
  cases hx
end Go.Sx
end
section
namespace dU
def one(s:UInt32):UInt32:=if s&&&1=1 then (s>>>1)^^^0xedb88320 else s>>>1
def many:Nat→UInt32→UInt32
 | 0,s=>s
 | n+1,s=>one (many n s)
def byte(s:UInt32)(c:UInt8):UInt32:=many 8 (s^^^c.toUInt32)
def reg(s:UInt32)(l:List UInt8):UInt32:=l.foldl byte s
def update(s:UInt32)(l:List UInt8):UInt32:=(reg (s^^^0xffffffff) l)^^^0xffffffff
def crc(ls:List (List UInt8)):UInt32:=ls.foldl update 0
def le4(s:UInt32):List UInt8:=[s.toUInt8,(s>>>8).toUInt8,(s>>>16).toUInt8,(s>>>24).toUInt8]
def app(b:List UInt8):List UInt8:=b++le4 (update 0 b)
end dU
end
section
namespace dU
theorem am5(s:UInt32):s&&&1=0∨s&&&1=1:=by
 have h:(s&&&1).toNat=s.toNat%2:=by rw[UInt32.toNat_and]; simp[Nat.and_one_is_mod]
 rcases Nat.mod_two_eq_zero_or_one s.toNat with e | e
 ·exact .inl (axj.1 (by rw[h,e]; rfl))
 exact .inr (axj.1 (by rw[h,e]; rfl))
theorem ae9(a b c:UInt32):(a^^^b)&&&c=(a&&&c)^^^(b&&&c):=by
 apply UInt32.toBitVec_inj.1;simp only[UInt32.toBitVec_and,UInt32.toBitVec_xor];apply BitVec.eq_of_getLsbD_eq;intro i _;simp only[BitVec.getLsbD_and,BitVec.getLsbD_xor];cases a.toBitVec.getLsbD i<;>cases b.toBitVec.getLsbD i<;>cases c.toBitVec.getLsbD i<;>rfl
theorem afa(a b:UInt32)(k:UInt32):(a^^^b)>>>k=(a>>>k)^^^(b>>>k):=by
 apply UInt32.toBitVec_inj.1;simp only[UInt32.toBitVec_shiftRight,UInt32.toBitVec_xor];apply BitVec.eq_of_getLsbD_eq;intro i _;simp
theorem afb(a b:UInt32):one (a^^^b)=one a^^^one b:=by
 unfold one;rw[ae9,afa];rcases am5 a with ha | ha<;>rcases am5 b with hb | hb<;>rw[ha,hb]
 ·simp
 ·simp[UInt32.xor_assoc]
 ·simp only[show(1^^^0:UInt32)=1 from rfl,if_true,show ¬(0:UInt32)=1 by decide,if_false];rw[ayy,ayy,UInt32.xor_comm (b>>>1)]
 simp only[show ¬(1^^^1:UInt32)=1 by decide,if_true,if_false];rw[ayy,←ayy 3988292384,UInt32.xor_comm 3988292384 (b>>>1),ayy (b>>>1),UInt32.xor_self,UInt32.xor_zero]
theorem acA(n:Nat)(a b:UInt32):many n (a^^^b)=many n a^^^many n b:=by
 induction n with
 | zero=>rfl
 | succ n ih=>simp only[many,ih,afb]
theorem acB(m n:Nat)(s:UInt32):many (m+n) s=many m (many n s):=by
 induction m with
 | zero=>simp[many]
 | succ m ih=>rw[Nat.add_right_comm]; simp only[many,ih]
end dU
end
section
namespace dU
theorem acC(z:UInt32)(h:z.toNat%2=0):(one z).toNat=z.toNat/2:=by
 have h0:¬z&&&1=1:=by
  intro h1;have:=awp UInt32.toNat h1;rw[UInt32.toNat_and]at this;simp[Nat.and_one_is_mod]at this;omega
 unfold one;rw[awj h0,ayi];simp[Nat.shiftRight_eq_div_pow]
theorem YR(n:Nat):∀z y:UInt32,z.toNat=y.toNat*2^n→many n z=y:=by
 induction n with
 | zero=>intro z y h; exact axj.1 (by show z.toNat=y.toNat; simpa using h)
 | succ n ih =>
  intro z y h;rw[acB n 1];rw[awW,←aw0]at h;refine ih (one z) y ?_;rw[acC z (by omega),h];omega
theorem YS(y:UInt32)(h:y.toNat<16777216):many 8 (y<<<8)=y:=by
 apply YR;rw[UInt32.toNat_shiftLeft];simp[Nat.shiftLeft_eq];omega
theorem afc(x:UInt32):(x>>>8).toNat<16777216:=by
 have:=x.toNat_lt;rw[ayi];simp[Nat.shiftRight_eq_div_pow];omega
theorem aiI(x:UInt32):x.toUInt8.toUInt32^^^((x>>>8)<<<8)=x:=by
 apply axj.1;have hx:=x.toNat_lt;rw[UInt32.toNat_xor,UInt32.toNat_shiftLeft,ayi];have e1:x.toUInt8.toUInt32.toNat=x.toNat%2^8:=by simp
 have e2:(x.toNat>>>8)<<<8%2^32=(x.toNat>>>8)<<<8:=by
  simp[Nat.shiftRight_eq_div_pow,Nat.shiftLeft_eq]; omega
 rw[e1];show x.toNat%2^8^^^(x.toNat>>>8)<<<8%2^32=x.toNat;rw[e2];apply Nat.eq_of_testBit_eq;intro i;rw[Nat.testBit_xor,Nat.testBit_mod_two_pow,Nat.testBit_shiftLeft,Nat.testBit_shiftRight];by_cases h:i<8
 ·simp[h,show ¬8≤i by omega]
 simp[h,show 8≤i by omega,show 8+(i-8)=i by omega]
theorem aiJ(x:UInt32):x&&&255=x.toUInt8.toUInt32:=by
 apply axj.1;rw[UInt32.toNat_and];simp;exact Nat.and_two_pow_sub_one_eq_mod x.toNat 8
theorem acD(s:UInt32)(c:UInt8):byte s c=many 8 ((s&&&255)^^^c.toUInt32)^^^(s>>>8):=by
 show many 8 (s^^^c.toUInt32)=_;rw[aiJ];conv=>lhs; rw[←aiI s]
 rw[ayy,UInt32.xor_comm _ c.toUInt32,←ayy,acA,YS _ (afc s)]
end dU
end
namespace Go.Proofs.YtapmgonflgahbaaGreatDoor
section
set_option maxHeartbeats 400000
open Go.RowKit
variable{α:Type}
theorem acE(s:UInt32)(l:List UInt8)(c:UInt8):dU.reg s (l++[c])=dU.byte (dU.reg s l) c:=by simp[dU.reg]
theorem Qi(s:UInt32)(l:List UInt8)(k:Nat)(h:k<l.length):dU.reg s (l.take (k+1))=dU.byte (dU.reg s (l.take k)) l[k]:=by
 rw[take_snoc l k h,acE]
theorem Ws(x:UInt32)(h:(bits .and .u32 (x.toNat:Int) 1==1)=true):bits .xor .u32 ((x.toNat:Int)/(2:Int)) 3988292384=((dU.one x).toNat:Int):=by
 rw[ZT,ajG];rw[Vf]at h;have h':x&&&1=1:=by
  apply axj.1;simp only[awE]at h;have:=h; simp only[UInt32.reduceToNat]; omega
 simp[dU.one,h']
theorem acF(x:UInt32)(h:(bits .and .u32 (x.toNat:Int) 1==1)=false):((x.toNat:Int)/(2:Int))=((dU.one x).toNat:Int):=by
 rw[ZT];rw[Vf]at h;have h':¬x&&&1=1:=by
  intro e; rw[e]at h; simp at h
 simp[dU.one,h']
theorem Qj(s:UInt32)(v:Value)(l:List UInt8)(w:World)(hv:bG w v l) :
  Calls Tryz.prog 149 #[aX s,v] w fun e w'=>e = .returned (aX (dU.update s l))∧w=w':=by
 obtain⟨a,cap,rfl,hm,ha⟩:=hv;have hl:=pz hm ha;have HA:=awf ha;clear ha;go_enter Tryz.func149,Tryz.ntmps149
 go_wp2
 go_loop [0,12] (fun s1 i=>∃k:Nat,k≤l.length∧i = .i k∧s1=aX (dU.reg (s^^^0xffffffff) (l.take k))) (fun _ i=>l.length-(intOf i).toNat)
 case atStart=>exact⟨0,awt _,rfl,by rw[afU,ZV]; rfl⟩
 case round =>
  obtain⟨k,hk,rfl,rfl⟩:=hrel;by_cases hlt:k<l.length
  ·rcases HA.out with ⟨rfl,_⟩ | ⟨b,o,rfl,hb,hlc,hc⟩
   ·simp at hlt
   have hck:=hc k hlt;go_wp2
   go_loop [0,20] (fun s1 i=>∃j:Nat,j≤8∧i = .i j∧s1=aX (dU.many j ((dU.reg (s^^^0xffffffff) (l.take k))^^^l[k].toUInt32))) (fun _ i=>8-(intOf i).toNat)
   case atStart=>exact⟨0,awt _,rfl,by rw[ZU,Xq]; rfl⟩
   case round =>
    obtain⟨j,hj,rfl,rfl⟩:=hrel;by_cases hlt:j<8
    ·have E:Hid (dU.many (j+1) ((dU.reg (s^^^0xffffffff) (l.take k))^^^l[k].toUInt32)=dU.one (dU.many j ((dU.reg (s^^^0xffffffff) (l.take k))^^^l[k].toUInt32))):=rfl;generalize dU.many j ((dU.reg (s^^^0xffffffff) (l.take k))^^^l[k].toUInt32)=x at E;go_wp2
     ·go_round
      case rel=>exact⟨j+1,by omega,by go_num,by rw[E.out,Ws x ‹_›]⟩
      case measure=>simp[intOf]; omega
     go_round
     case rel=>exact⟨j+1,by omega,by go_num,by rw[E.out,acF x ‹_›]⟩
     case measure=>simp[intOf]; omega
    obtain rfl:j=8:=by omega
    go_wp2
    go_round
    case rel=>exact⟨k+1,by omega,by go_num,by rw[Qi _ _ _ ‹_›]; rfl⟩
    case measure=>simp[intOf]; omega
  obtain rfl:k=l.length:=by omega
  go_wp2
  go_ret
  exact⟨iV (by rw[afU,ZV]; simp only[dU.update]),rfl⟩
theorem acG(l:List (List UInt8))(k:Nat)(h:k<l.length):dU.crc (l.take (k+1))=dU.update (dU.crc (l.take k)) l[k]:=by
 rw[take_snoc l k h]; simp only[dU.crc,List.foldl_append,List.foldl_cons,List.foldl_nil]
theorem crc32(v:Value)(l:List (List UInt8))(w:World)(hv:yc w v l) :
  Calls Tryz.prog 88 #[v] w fun e w'=>e = .returned (aX (dU.crc l))∧w=w':=by
 obtain⟨a,cap,rfl,hm,ha⟩:=hv;have hl:=ZQ hm ha;have HA:=awf ha;clear ha;go_enter Tryz.func88,Tryz.ntmps88
 go_wp2
 go_loop [3,8] (fun s1 i=>∃k:Nat,k≤l.length∧i = .i k∧s1=aX (dU.crc (l.take k))) (fun _ i=>l.length-(intOf i).toNat)
 case atStart=>exact⟨0,awt _,rfl,rfl⟩
 case round =>
  obtain⟨k,hk,rfl,rfl⟩:=hrel;by_cases hlt:k<l.length
  ·rcases HA.out with ⟨rfl,_⟩ | ⟨b,o,rfl,hb,hlc,hc⟩
   ·simp at hlt
   obtain⟨x,hck,hx⟩:=hc k hlt;go_wp2_with fail
   refine(Qj _ x l[k] _ hx).mono ?_;rintro e w' ⟨rfl,rfl⟩;go_wp2
   go_round
   case rel=>exact⟨k+1,by omega,by go_num,by rw[acG l k ‹_›]⟩
   case measure=>simp[intOf]; omega
  obtain rfl:k=l.length:=by omega
  go_wp2
  go_ret
  exact⟨iV (by simp only),rfl⟩
theorem acH(x:UInt32)(h:((x.toNat:Int)%2==1)=true):bits .xor .u32 ((x.toNat:Int)/2%4294967296) 3988292384=((dU.one x).toNat:Int):=by
 have e:((x.toNat:Int)/2%4294967296)=(x.toNat:Int)/2:=by have:=x.toNat_lt; omega
 rw[e];exact Ws x (by rw[Vf,Ve]; exact h)
theorem afd(x:UInt32)(h:((x.toNat:Int)%2==1)=false):((x.toNat:Int)/2%4294967296)=((dU.one x).toNat:Int):=by
 have e:((x.toNat:Int)/2%4294967296)=(x.toNat:Int)/2:=by have:=x.toNat_lt; omega
 rw[e];exact acF x (by rw[Vf,Ve]; exact h)
theorem aiK(s:UInt32)(w:World) :
  Calls Tryz.prog 137 #[aX s] w fun e w'=>e = .returned (aX (dU.many 8 s))∧w=w':=by
 go_enter Tryz.func137,Tryz.ntmps137
 go_wp2
 go_loop [0,3] (fun s1 i=>∃j:Nat,j≤8∧i = .i j∧s1=aX (dU.many j s)) (fun _ i=>8-(intOf i).toNat)
 case atStart=>exact⟨0,awt _,rfl,rfl⟩
 case round =>
  obtain⟨j,hj,rfl,rfl⟩:=hrel;by_cases hlt:j<8
  ·have E:Hid (dU.many (j+1) s=dU.one (dU.many j s)):=rfl;generalize dU.many j s=x at E;go_wp2
   ·go_round
    case rel=>exact⟨j+1,by omega,by go_num,by rw[E.out,acH x ‹_›]⟩
    case measure=>simp[intOf]; omega
   go_round
   case rel=>exact⟨j+1,by omega,by go_num,by rw[E.out,afd x ‹_›]⟩
   case measure=>simp[intOf]; omega
  obtain rfl:j=8:=by omega
  go_wp2
  go_ret
  exact⟨rfl,rfl⟩
end
section
set_option maxHeartbeats 400000
open Go.RowKit
variable{α:Type}
theorem acI(x:UInt32)(c:UInt8):bits .xor .u32 ((dU.many 8 ((x&&&255)^^^c.toUInt32)).toNat:Int) ((x>>>8).toNat:Int)=((dU.byte x c).toNat:Int):=by
 rw[Xq,dU.acD]
theorem YT(s:UInt32)(v:Value)(l:List UInt8)(w:World)(hv:bG w v l) :
  Calls Tryz.prog 76 #[aX s,v] w fun e w'=>e = .returned (aX (dU.update s l))∧w=w':=by
 obtain⟨a,cap,rfl,hm,ha⟩:=hv;have hl:=pz hm ha;have HA:=awf ha;clear ha;go_enter Tryz.func76,Tryz.ntmps76
 go_wp2
 go_loop [5,6] (fun s1 i=>∃k:Nat,k≤l.length∧i = .i k∧s1=aX (dU.reg (s^^^0xffffffff) (l.take k))) (fun _ i=>l.length-(intOf i).toNat)
 case atStart=>exact⟨0,awt _,rfl,by rw[afV]; rfl⟩
 case round =>
  obtain⟨k,hk,rfl,rfl⟩:=hrel;by_cases hlt:k<l.length
  ·rcases HA.out with ⟨rfl,_⟩ | ⟨b,o,rfl,hb,hlc,hc⟩
   ·simp at hlt
   have hck:=hc k hlt;have E:=awf (Qi (s^^^0xffffffff) l k hlt);generalize dU.reg (s^^^0xffffffff) (l.take k)=x at E;go_wp2_with fail
   rw[agS,ZU,Xq];refine(aiK _ _).mono ?_;rintro e w' ⟨rfl,rfl⟩;go_wp2
   go_round
   case rel=>exact⟨k+1,by omega,by go_num,by rw[E.out,Rt,acI]⟩
   case measure=>simp[intOf]; omega
  obtain rfl:k=l.length:=by omega
  go_wp2
  go_ret
  exact⟨iV (by simp only[afV]; rfl),rfl⟩
theorem UE(v:Value)(l:List UInt8)(w:World)(hv:bG w v l)(hlen:l.length≤140737488355328) :
  Calls Tryz.prog 89 #[v] w fun e w'=>∃v',e = .returned v'∧w'.ownsRow w.heap.size 5 1 v' l.length (l.map fA)∧Below w.heap.size w w':=by
 have hr:=hv.raw (fun _=>rfl);obtain⟨a,cap,rfl,hm,ha⟩:=hv;rcases a with _ | ad
 ·have hz:l=[]∧cap=0:=by
   rcases ha with ⟨h,h0⟩ | ⟨b,o,h,_⟩
   ·exact⟨h,h0 rfl⟩
   cases h
  obtain⟨rfl,rfl⟩:=hz;have hnil:=Lib.run_eql_slice_nil (P:=Tryz.prog) w 49 5 none 0 0 0 0 Tryz.underlying49;clear ha hr;go_enter Tryz.func89,Tryz.ntmps89
  go_wp2
  go_ret
  exact⟨_,rfl,ayC _ _ _ _,awD _ _⟩
 have hnil:=Lib.run_eql_slice_nil (P:=Tryz.prog) w 49 5 (some ad) l.length cap 0 0 Tryz.underlying49;have hown:=aye (base:=w.heap.size) (e:=5) (size:=1) w #[] 0 (awm _) (awt _) rfl;have hr:=BF hr (.cells #[] 5);have h63:0+l.length≤maxLen:=by
  rcases ha with ⟨rfl,_⟩ | ⟨b,o,_,_,h,_⟩
  ·simp
  omega
 have hby:(0+l.length)*1≤140737488355328:=by omega
 clear ha;go_enter Tryz.func89,Tryz.ntmps89
 go_wp2_with (at_builtin; refine bC rfl _ _ _ rfl tC w.heap.size hown rfl hr rfl h63 hby (by simp) ?_; intro v' w' hown' hg)
 go_ret
 simp only[axh,axy]at hown';exact⟨_,rfl,by simpa using hown',((awD _ _).alloc (awm _) _).grown hg (by simp) (by simp[Value.ownBlock])⟩
theorem Wu(l:List UInt8):dU.crc [l]=dU.update 0 l:=rfl
theorem Wv(x:UInt32):(x.toNat:Int)/(65536:Int)=((x>>>16).toNat:Int):=by
 rw[ayi]; simp[Nat.shiftRight_eq_div_pow]
theorem Wx(x:UInt32):(x.toNat:Int)/(16777216:Int)=((x>>>24).toNat:Int):=by
 rw[ayi]; simp[Nat.shiftRight_eq_div_pow]
theorem YU(x:UInt32):(dU.le4 x).map fA =
  [.u ((x.toNat:Int)%256),.u ((x.toNat:Int)/256%256),.u ((x.toNat:Int)/65536%256),.u ((x.toNat:Int)/16777216%256)]:=by
 simp only[dU.le4,axb,axC,fA];rw[Rt,Wv,Wx,wM,wM,wM,wM]
theorem Wy(x:UInt32)(w:World)(e:TypeId):fH (w.alloc (.cells #[.u ((x.toNat:Int)%256),.u ((x.toNat:Int)/256%256),.u ((x.toNat:Int)/65536%256),.u ((x.toNat:Int)/16777216%256)] e)) 1
  (.slice (some ⟨w.heap.size,0,none⟩) 4 4) 4 ((dU.le4 x).map fA):=by
 rw[YU];exact KC w _ e 4 1 rfl (by unfold maxLen; omega) (by intro u hu; simp at hu; rcases hu with rfl | rfl | rfl | rfl<;>rfl)
theorem rX(v:Value)(l:List UInt8)(w:World)(hv:bG w v l)(hlen:l.length≤100000000) :
  Calls Tryz.prog 37 #[v] w fun e w'=>∃v',e = .returned v' ∧
   w'.ownsRow w.heap.size 5 1 v' (l++dU.le4 (dU.update 0 l)).length ((l++dU.le4 (dU.update 0 l)).map fA)∧Below w.heap.size w w':=by
 obtain⟨a,cap,rfl⟩:∃a cap,v = .slice a l.length cap:=by obtain⟨a,cap,h,_⟩:=hv; exact⟨a,cap,h⟩
 have hp:=Vd (R:=bG) w (.slice a l.length cap) l 49 (hv.below (aF _ _));have hv1:=hv.below (aF w (.cells #[.slice a l.length cap] 49));have h63:l.length+4≤maxLen:=by unfold maxLen; omega
 have hby:(l.length+4)*1≤140737488355328:=by omega
 go_enter Tryz.func37,Tryz.ntmps37
 go_wp2_with fail
 refine(crc32 _ _ _ hp).mono ?_;rintro e w' ⟨rfl,rfl⟩;rw[Wu];go_wp2_with fail
 refine(UE _ _ _ hv1 (by omega)).mono ?_;rintro e w2 ⟨v2,rfl,hown,hb2⟩;have hb2':Below w.heap.size w w2:=(aF _ _).trans (hb2.mono (by simp));generalize hx:dU.update 0 l=x;have HX:=awf hx;clear hx;have hr:=Wy x w2 5;have hown':=(aW hown (show w.heap.size≤_ by simp)).alloc (.cells #[.u ((x.toNat:Int)%256),.u ((x.toNat:Int)/256%256),.u ((x.toNat:Int)/65536%256),.u ((x.toNat:Int)/16777216%256)] 5);have hsz:w.heap.size≤w2.heap.size:=by have:=hb2.size; simp at this; omega
 have hsz':w.heap.size≤(w2.alloc (.cells #[.u ((x.toNat:Int)%256),.u ((x.toNat:Int)/256%256),.u ((x.toNat:Int)/65536%256),.u ((x.toNat:Int)/16777216%256)] 5)).heap.size:=by simp; omega
 clear hown;go_wp2_with (at_builtin; refine bC rfl _ _ _ rfl tC w.heap.size hown' rfl hr rfl h63 hby hsz' ?_; intro v' w' hown' hg)
 go_ret
 refine⟨_,rfl,by rw[HX.out]; simpa[dU.le4]using hown',(hb2'.alloc hsz _).grown hg hsz' ?_⟩;exact fun k hk=>(World.ownsRow.lt ‹_› k hk).1
theorem Jc(f:α→Value)(l:List α)(k:Nat)(h:k<l.length):(l.take (k+1)).map f=(l.take k).map f++[f l[k]]:=by
 rw[take_snoc l k h,aw6]; rfl
theorem YV(v:Value)(l:List UInt8)(w:World)(hv:bG w v l)(hlen:l.length≤100000000) :
  Calls Tryz.prog 31 #[v] w fun e w'=>∃v',e = .returned v' ∧
   w'.ownsRow w.heap.size 5 1 v' (l++dU.le4 (dU.update 0 l)).length ((l++dU.le4 (dU.update 0 l)).map fA)∧Below w.heap.size w w':=by
 have hv0:=hv;obtain⟨a,cap,rfl,hm,ha⟩:=hv;have hl:=pz hm ha;have HA:=awf ha;clear ha;go_enter Tryz.func31,Tryz.ntmps31
 go_wp2
 go_loopw [3,4] (fun out i wr=>∃k:Nat,k≤l.length∧i = .i k∧wr.ownsRow w.heap.size 5 1 out k ((l.take k).map fA)∧Below w.heap.size w wr) (fun _ i _=>l.length-(intOf i).toNat)
 case atStart=>exact⟨0,awt _,rfl,aye w #[] 0 (awm _) (awt _) rfl,aF _ _⟩
 case round =>
  obtain⟨k,hk,rfl,hown,hbel⟩:=hrel;by_cases hlt:k<l.length
  ·rcases HA.out with ⟨rfl,_⟩ | ⟨b,o,rfl,hb,hlc,hc⟩
   ·simp at hlt
   have hck:wr.cell? ⟨b,o+k,none⟩=some (fA l[k]):=by rw[hbel.cell (p:=⟨b,o+k,none⟩) hb]; exact hc k hlt
   clear hc;have hr:=mF wr (fA l[k]) 5 rfl;have hown':=hown.alloc (.cells #[fA l[k]] 5);have h63:k+1≤maxLen:=by unfold maxLen; omega
   have hby:(k+1)*1≤140737488355328:=by omega
   have hsz:w.heap.size≤wr.heap.size:=hbel.size;have hsz':w.heap.size≤(wr.alloc (.cells #[fA l[k]] 5)).heap.size:=by simp; omega
   clear hown;go_wp2_with (at_builtin; refine bC rfl _ _ _ rfl tC w.heap.size hown' rfl hr rfl h63 hby hsz' ?_; intro v' w' hown2 hg)
   go_roundw
   case rel=>exact⟨k+1,by omega,by go_num,by rw[Jc _ _ _ ‹_›]; exact hown2,(hbel.alloc hsz _).grown hg hsz' (fun k hk=>(World.ownsRow.lt hown' k hk).1)⟩
   case measure=>simp[intOf]; omega
  obtain rfl:k=l.length:=by omega
  have hv1:=hv0.below hbel;simp only[axa]at hown;go_wp2_with fail
  refine(YT 0 _ _ _ hv1).mono ?_;rintro e w' ⟨rfl,rfl⟩;generalize hx:dU.update 0 l=x;have HX:=awf hx;clear hx;have hr:=Wy x wr 5;have hown':=hown.alloc (.cells #[.u ((x.toNat:Int)%256),.u ((x.toNat:Int)/256%256),.u ((x.toNat:Int)/65536%256),.u ((x.toNat:Int)/16777216%256)] 5);have hsz:w.heap.size≤wr.heap.size:=hbel.size;have hsz':w.heap.size≤(wr.alloc (.cells #[.u ((x.toNat:Int)%256),.u ((x.toNat:Int)/256%256),.u ((x.toNat:Int)/65536%256),.u ((x.toNat:Int)/16777216%256)] 5)).heap.size:=by simp; omega
  have h63:l.length+4≤maxLen:=by unfold maxLen; omega
  have hby:(l.length+4)*1≤140737488355328:=by omega
  clear hown;go_wp2_with (at_builtin; refine bC rfl _ _ _ rfl tC w.heap.size hown' rfl hr rfl h63 hby hsz' ?_; intro v' w' hown2 hg)
  go_ret
  exact⟨_,rfl,by rw[HX.out]; simpa[dU.le4]using hown2,(hbel.alloc hsz _).grown hg hsz' (fun k hk=>(World.ownsRow.lt hown' k hk).1)⟩
theorem Qk{c y:UInt8}{z:Int}(hz:z=(y.toNat:Int)):((c.toNat:Int) != z)=(c != y):=by
 subst hz;rw[axA,bne_iff_ne,bne_iff_ne];constructor
 ·intro h e; exact h (by rw[e])
 intro h e; exact h (ayk.1 (by omega))
theorem agF(x:UInt32):(x.toNat:Int)%(256:Int)=(x.toUInt8.toNat:Int):=wM x
theorem agG(x:UInt32):(x.toNat:Int)/(256:Int)%(256:Int)=((x>>>8).toUInt8.toNat:Int):=by rw[Rt,wM]
theorem agH(x:UInt32):(x.toNat:Int)/(65536:Int)%(256:Int)=((x>>>16).toUInt8.toNat:Int):=by rw[Wv,wM]
theorem agI(x:UInt32):(x.toNat:Int)/(16777216:Int)%(256:Int)=((x>>>24).toUInt8.toNat:Int):=by rw[Wx,wM]
theorem four(l:List UInt8)(m:Nat)(h:l.length=m+4):∃c0 c1 c2 c3,l.drop m=[c0,c1,c2,c3]:=by
 have e:(l.drop m).length=4:=by simp; omega
 match l.drop m,e with
 | [c0,c1,c2,c3],_=>exact⟨c0,c1,c2,c3,rfl⟩
def YW(c0 c1 c2 c3:UInt8)(x:UInt32)(k:Nat):Prop:=[c0,c1,c2,c3].take k=(dU.le4 x).take k
theorem LY(v:Value)(l:List UInt8)(w:World)(hv:bG w v l)(h:l.length<4) :
  Calls Tryz.prog 101 #[v] w fun e w'=>e = .returned (.tuple #[.sn,.i 4])∧w=w':=by
 obtain⟨a,cap,rfl⟩:∃a cap,v = .slice a l.length cap:=by obtain⟨a,cap,h,_⟩:=hv; exact⟨a,cap,h⟩
 clear hv;go_enter Tryz.func101,Tryz.ntmps101
 go_wp2
 go_ret2
 exact⟨rfl,rfl⟩
theorem Dx(v:Value)(l:List UInt8)(m:Nat)(w:World)(hv:bG w v l)(hlen:l.length=m+4)(hm:m≤100000000) :
  Calls Tryz.prog 101 #[v] w fun e w'=>∃v' k,e = .returned (.tuple #[v',.i k])∧Below w.heap.size w w' ∧
   (l.drop m=dU.le4 (dU.update 0 (l.take m))→k=0∧bG w' v' (l.take m))∧(l.drop m≠dU.le4 (dU.update 0 (l.take m))→k=19∧v' = .sn):=by
 obtain⟨a,cap,rfl,hcap,ha⟩:=hv;rcases ha with ⟨rfl,_⟩ | ⟨b,o,rfl,hb,hlc,hc⟩
 ·simp at hlen
 have hr:=ZR (n:=m) hb hlc hcap (by omega) hc;have hp:=Vd (R:=bG) w (.slice (some ⟨b,o,none⟩) m cap) (l.take m) 49 (hr.below (aF _ _));have hr1:=hr.below (aF w (.cells #[.slice (some ⟨b,o,none⟩) m cap] 49));have hlt:m≤cap:=by omega
 have hne:¬m=cap:=by omega
 have hmc:m<cap:=by omega
 go_enter Tryz.func101,Tryz.ntmps101
 go_wp2_with fail
 refine(crc32 _ _ _ hp).mono ?_;rintro e w' ⟨rfl,rfl⟩;rw[Wu];go_wp2_with fail
 generalize hx:dU.update 0 (l.take m)=x;have HX:=awf hx;clear hx hr;obtain⟨c0,c1,c2,c3,hd⟩:=four l m hlen;have hcd:∀k (h:k<4),(w.alloc (.cells #[.slice (some ⟨b,o,none⟩) m cap] 49)).cell? ⟨b,o+m+k,none⟩=some (fA ([c0,c1,c2,c3][k])):=by
  intro k hk;rw[World.cell?_alloc_past _ _ _ hb,ayh,hc (m+k) (by omega)];simp only[←hd];rw[List.getElem_drop]
 have HC:=awf hcd;have HD:=awf hd;clear hcd hc hd;go_loop [22] (fun i=>∃k:Nat,k≤4∧i = .i k∧YW c0 c1 c2 c3 x k) (fun i=>4-(intOf i).toNat)
 case atStart=>exact⟨0,by omega,rfl,rfl⟩
 case round =>
  obtain⟨k,hk,rfl,heq⟩:=hrel;have HE:=awf heq;clear heq;have hk':k=0∨k=1∨k=2∨k=3∨k=4:=by omega
  rcases hk' with rfl | rfl | rfl | rfl | rfl
  ·have hck:=HC.out 0 (by omega);simp only[axO,ayb]at hck;go_wp2
   ·have h := ‹((c0.toNat:Int) != _)=true›;rw[Qk (agF x)]at h;go_ret2
    exact⟨_,_,rfl,aF _ _,fun e=>by rw[HD.out,HX.out]at e; simp[dU.le4]at e; simp[e]at h,fun _=>⟨rfl,rfl⟩⟩
   have h := ‹((c0.toNat:Int) != _)=false›;rw[Qk (agF x)]at h;go_round
   case rel=>exact⟨1,by omega,rfl,by simp[YW,dU.le4]at h ⊢; exact h⟩
   case measure=>simp[intOf]
  ·have hck:=HC.out 1 (by omega);simp only[ayb,List.getElem_cons_succ]at hck;go_wp2
   ·have h := ‹((c1.toNat:Int) != _)=true›;rw[Qk (agG x)]at h;go_ret2
    exact⟨_,_,rfl,aF _ _,fun e=>by rw[HD.out,HX.out]at e; simp[dU.le4]at e; simp[e]at h,fun _=>⟨rfl,rfl⟩⟩
   have h := ‹((c1.toNat:Int) != _)=false›;rw[Qk (agG x)]at h;go_round
   case rel=>exact⟨2,by omega,rfl,by have:=HE.out; simp[YW,dU.le4]at h this ⊢; exact⟨this,h⟩⟩
   case measure=>simp[intOf]
  ·have hck:=HC.out 2 (by omega);simp only[ayb,List.getElem_cons_succ]at hck;go_wp2
   ·have h := ‹((c2.toNat:Int) != _)=true›;rw[Qk (agH x)]at h;go_ret2
    exact⟨_,_,rfl,aF _ _,fun e=>by rw[HD.out,HX.out]at e; simp[dU.le4]at e; simp[e]at h,fun _=>⟨rfl,rfl⟩⟩
   have h := ‹((c2.toNat:Int) != _)=false›;rw[Qk (agH x)]at h;go_round
   case rel=>exact⟨3,by omega,rfl,by have:=HE.out; simp[YW,dU.le4]at h this ⊢; exact⟨this.1,this.2,h⟩⟩
   case measure=>simp[intOf]
  ·have hck:=HC.out 3 (by omega);simp only[ayb,List.getElem_cons_succ]at hck;go_wp2
   ·have h := ‹((c3.toNat:Int) != _)=true›;rw[Qk (agI x)]at h;go_ret2
    exact⟨_,_,rfl,aF _ _,fun e=>by rw[HD.out,HX.out]at e; simp[dU.le4]at e; simp[e]at h,fun _=>⟨rfl,rfl⟩⟩
   have h := ‹((c3.toNat:Int) != _)=false›;rw[Qk (agI x)]at h;go_round
   case rel=>exact⟨4,by omega,rfl,by have:=HE.out; simp[YW,dU.le4]at h this ⊢; exact⟨this.1,this.2.1,this.2.2,h⟩⟩
   case measure=>simp[intOf]
  have e:l.drop m=dU.le4 (dU.update 0 (l.take m)):=by
   rw[HD.out,HX.out]; have:=HE.out; simpa[YW,dU.le4]using this
  have HF:=awf e;clear e;go_wp2_with fail
  refine(UE _ _ _ hr1 (by simp; omega)).mono ?_;rintro e w2 ⟨v2,rfl,hown,hb2⟩;have hrow:=aU hown;clear hown;go_wp2_with fail
  go_ret2
  exact⟨_,_,rfl,(aF _ _).trans (hb2.mono (by simp)),fun _=>⟨rfl,hrow⟩,fun h=>(h HF.out).elim⟩
end
end Go.Proofs.YtapmgonflgahbaaGreatDoor
