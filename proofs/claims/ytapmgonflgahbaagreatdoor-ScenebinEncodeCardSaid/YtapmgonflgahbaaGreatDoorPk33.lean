/- Reading bytes: the reader's take, color and pixel. -/
import Derived.Test.YtapmgonflgahbaaGreatDoorPk32
import Derived.Lib.SlBytesConst
import Derived.Laws.AppendOwn
set_option linter.unusedVariables false
namespace Go.Proofs.YtapmgonflgahbaaGreatDoor
section
set_option maxHeartbeats 1600000
set_option maxRecDepth 100000
open Go.RowKit
variable{α:Type}{K:Nat}
def tkP(l:List UInt8)(p:Nat)(bad:Bool)(n:Nat):Nat:=if (bad||decide (l.length<p+n))=true then p else p+n
def Xm(l:List UInt8)(p:Nat)(bad:Bool)(n:Nat):Bool:=bad||decide (l.length<p+n)
def tkL(l:List UInt8)(p:Nat)(bad:Bool)(n:Nat):List UInt8:=if (bad||decide (l.length<p+n))=true then List.replicate n 0 else (l.drop p).take n
theorem SG{l:List UInt8}{p n:Nat}{bad:Bool}(h:Xm l p bad n=true):tkP l p bad n=p∧tkL l p bad n=List.replicate n 0:=by
 unfold Xm at h; unfold tkP tkL; rw[an6 h,an6 h]; exact⟨rfl,rfl⟩
theorem aaB{l:List UInt8}{p n:Nat}{bad:Bool}(h:Xm l p bad n=false):bad=false∧p+n≤l.length∧tkP l p bad n=p+n∧tkL l p bad n=(l.drop p).take n:=by
 unfold Xm at h; unfold tkP tkL; rw[h];simp only[aoP,ao3]at h;exact⟨h.1,by omega,by simp,by simp⟩
theorem acA{l:List UInt8}{p n:Nat}{bad:Bool}:(tkL l p bad n).length=n:=by
 cases h:Xm l p bad n
 ·obtain⟨-,h1,-,h2⟩:=aaB h; rw[h2]; simp; omega
 rw[(SG h).2]; simp
theorem acB{l:List UInt8}{p:Nat}{bad:Bool}:∃q:bT,tkL l p bad 4=Px.pb q:=by
 have h:=@acA l p 4 bad;match h1:tkL l p bad 4,h with
 | [a,b,c,d],_=>exact⟨⟨a,b,c,d⟩,rfl⟩
theorem qx{b b2:Nat}{w u u':World}(h:Ch b w u)(c:Ch b2 u u')(hb:b2=b∨w.heap.size≤b2):Ch b w u':=by
 rcases hb with rfl | hb
 ·exact h.trans c
 exact⟨c.os.trans h.os,c.tape.trans h.tape,c.output.trans h.output,aoE h.size c.size,fun i hi hn=>(c.block i (aoC hi h.size) (fun e=>by simp only[an8]at e; omega)).trans (h.block i hi hn)⟩
theorem aaC{w:World}{a:Option Addr}{l:List UInt8}{c p n:Nat}(h:mF w (.slice a l.length c) l)(hp:p+n≤l.length)(hn:0<n):l.length≤c∧∃bk o,a=some ⟨bk,o,none⟩∧bk<w.heap.size∧w.rangeAt bk (o+p) (((l.drop p).take n).map dY):=by
 obtain⟨a',cap,hv,hm,hh⟩:=h;simp only[aoB,true_and]at hv;obtain⟨rfl,rfl⟩:=hv;rcases hh with ⟨rfl,-⟩ | ⟨bk,o,rfl,hb,hl,hc⟩
 ·simp only[aoy]at hp; omega
 refine⟨hl,bk,o,rfl,hb,fun j v hj=>?_⟩;have hjn:j<n:=by
  have:=(List.getElem?_eq_some_iff.1 hj).1;simp only[apD,ap3,List.length_drop]at this; omega
 have h1:=hc (p+j) (by omega) 0 (by omega);rw[List.getElem?_map,List.getElem?_take_of_lt hjn,List.getElem?_drop,List.getElem?_eq_getElem (by omega)]at hj;obtain rfl:=aof hj;rw[show o+p+j=o+(p+j)*1+0 by omega,h1]; rfl
theorem aaD{w0:World}{a:Option Addr}{l:List UInt8}{c p:Nat}(h:mF w0 (.slice a l.length c) l)(hp:p+4≤l.length) :
  ∃bk o,(.slice (Sx.UZ a p c 1) (p+4-p) (c-p):Value) = .slice (some ⟨bk,o,none⟩) 4 (c-p)∧bk<w0.heap.size∧w0.rangeAt bk o (((l.drop p).take 4).map dY):=by
 obtain⟨hl,bk,o,rfl,hb,hr⟩:=aaC h hp (by omega);refine⟨bk,o+p*1,?_,hb,by rw[Nat.mul_one]; exact hr⟩;unfold Sx.UZ;rw[an0 (by omega),Nat.add_sub_cancel_left]; simp[Addr.add]
theorem Xn{w0 w:World}{b p cap:Nat}{a:Option Addr}{bad pk:Bool}{l:List UInt8}(hE:Ext w0 w)(hx:Bx w b #[.slice a l.length cap,.i p,.bool bad,.bool pk])(hb:w0.heap.size≤b)(h:mF w0 (.slice a l.length cap) l)(hp:p≤l.length) :
  Calls Tryz.prog 104 #[.q b 0,.i 4] w fun e w'=>∃bk o c,e = .returned (.slice (some ⟨bk,o,none⟩) 4 c)∧w'.rangeAt bk o ((tkL l p bad 4).map dY)∧bk<w'.heap.size∧(bk<w0.heap.size∨w.heap.size≤bk)∧Ext w0 w'∧Ch b w w'∧Bx w' b #[.slice a l.length cap,.i (tkP l p bad 4:Nat),.bool (Xm l p bad 4),.bool pk]:=by
 have hml:l.length≤9223372036854775807:=h.len;refine Sx.zV Tryz.func104 Tryz.ntmps104 hE hx hb fun ac S=>anv fun _ aS=>adr S 1 [] [(4,.sn)] fun S=>anu<|aS _ _<|anV fun _ eP=>anV fun _ jv=>anI S 22 [.mem 0 2,.mem 0 0,.mem 0 1,.re 24 (.i (IntKind.i64.wrap ((l.length:Int)-(p:Int)))) (.i (l.length-p:Nat))] [] [(26,.bool ((bad||false)||(decide (((l.length-p:Nat):Int)<4))))] trivial (hk:=⟨(Sx.zY (by omega) (by omega)),trivial⟩) fun ac u E4 S=>anu (jv _ _ ?_);refine anx S (fun hc5=>?_) (fun hc5=>?_)
 ·refine anv fun _ iL=>adr S 3 [] [(29,.q b 2)] fun S=>anT S 0 (off:=2) (v := .bool true) rfl (fun u C7 S=>?_);have Fs8:=(qx ((Ch.trans (Ch.refl b w) (Ch.jG E4))) C7 (by first | exact .inl rfl | exact .inr (by omega)));refine anu<|iL _ _<|anv (fun _ ig=>?_);have hws:=(Fs8).size;refine adr S 3 [] [(32,.i 4)] fun S=>anP S 33 4 [.u 0,.u 0,.u 0,.u 0] fun ac u b10 wu Iq S=>adr S 1 [] [(4,.slice (some ⟨b10,0,none⟩) 4 4)] fun S=>anu<|ig _ _<|an2 ?_;have hbad:Xm l p bad 4=true:=by unfold Xm; cases bad; (simp at hc5 ⊢; omega); rfl
  refine anD S Tryz.results104 ?_;exact⟨_,_,_,rfl,by rw[(SG hbad).2]; exact(S.bx 0).range 0 4 rfl,(S.bx 0).1,.inr (by have:=Iq; omega),S.E,((Ch.trans Fs8 (Ch.jG wu))),by rw[(SG hbad).1,hbad]; exact S.bx 1⟩
 have hok:Xm l p bad 4=false:=by unfold Xm; cases bad; (simp at hc5 ⊢; omega); simp at hc5
 have hlen:=(aaB hok).2.1;have hcap:=Sx.BA h;refine anZ<|eP _ _<|anv fun _ iH=>adr S 8 [.mem 0 1,.re 39 (.i (IntKind.i64.wrap ((p:Int)+4))) (.i (p+4:Nat))] [(39,.i (p+4:Nat)),(41,.q b 1)] (hk:=⟨(Sx.zY (by omega) (by omega)),trivial⟩) fun S=>anT S 0 (off:=1) (v := .i (p+4:Nat)) rfl (fun u C14 S=>?_);have zG:=(qx ((Ch.trans (Ch.refl b w) (Ch.jG E4))) C14 (by first | exact .inl rfl | exact .inr (by omega)));refine anu<|iH _ _<|anV fun _ iM=>anI S 15 [.mem 0 0,.mem 0 1,.re 51 (.i (IntKind.i64.wrap (((p+4:Nat):Int)-4))) (.i p),.mem 0 1,.slc p (p+4) cap cap] [] [(56,.slice (Sx.UZ a p cap 1) (p+4-p) (cap-p))] trivial (hk:=⟨(Sx.zY (by omega) (by omega)),(by omega),trivial⟩) fun ac u wI S=>adr S 1 [] [(4,.slice (Sx.UZ a p cap 1) (p+4-p) (cap-p))] fun S=>anu<|iM _ _<|an2 ?_;obtain⟨bk,o,hv,hk1,hr⟩:=aaD h hlen;have ho:=aaB hok;refine anD S Tryz.results104 ?_;exact⟨bk,o,cap-p,an9 Ending.returned hv,by rw[ho.2.2.2]; exact Vp.uN hr hk1 S.E,aoC hk1 S.E.size,.inl hk1,S.E,((Ch.trans zG (Ch.jG wI))),by rw[ho.2.2.1,hok]; have:=S.bx 0; rw[ho.1]at this; exact this⟩
theorem Py{w0 w:World}{b p cap:Nat}{a:Option Addr}{bad pk:Bool}{l:List UInt8}(hE:Ext w0 w)(hx:Bx w b #[.slice a l.length cap,.i p,.bool bad,.bool pk])(hb:w0.heap.size≤b)(h:mF w0 (.slice a l.length cap) l)(hp:p≤l.length) :
  Calls Tryz.prog 51 #[.q b 0] w fun e w'=>∃q:bT,e = .returned (.agg q.cells.toArray)∧Px.pb q=tkL l p bad 4∧Ext w0 w'∧Ch b w w'∧Bx w' b #[.slice a l.length cap,.i (tkP l p bad 4:Nat),.bool (Xm l p bad 4),.bool pk]:=by
 skip;refine Sx.zV Tryz.func51 Tryz.ntmps51 hE hx hb fun ac S=>anv fun _ aS=>anw S 2 [.u 0,.u 0,.u 0,.u 0] fun ac u b2 E3 hb4 S=>anu<|aS _ _<|anv fun _ bM=>adr S 1 [] [(4,.q b 0)] (fun S=>?_);have hz0:=S.bx 0;have hz1:=S.bx 1;have hz2:=S.old 0;refine Sx.qR S 1 [.slice a l.length cap,.i (tkP l p bad 4:Nat),.bool (Xm l p bad 4),.bool pk] (some 5) rfl (Xn S.E (S.bx 1) (S.old 1) h hp) ?_;rintro e u ⟨bk,ok,ck,rfl,hr,hlt,hor,hE6,hC6,hX6⟩;refine⟨_,rfl,hE6,hC6,hX6,fun ac S=>?_⟩;have Fs7:=(qx ((Ch.trans (Ch.refl b w) (Ch.jG E3))) hC6 (by first | exact .inl rfl | exact .inr (by omega)));obtain⟨q,hq⟩:=@acB l p bad;rw[hq]at hr;have S:=S.view (cs:=q.cells) hlt hr (fun p hp=>by rcases aon.1 hp with rfl | hp; (have:=hz0.1; rcases hor with h | h<;>(intro e; simp only at e; omega)); obtain rfl:=ap9.1 hp; (have:=hz1.1; rcases hor with h | h<;>(intro e; simp only at e; omega)));refine adr S 1 [] [(3,.slice (some ⟨bk,ok,none⟩) 4 ck)] fun S=>anu<|bM _ _<|anV fun _ eu=>anI S 13 [.idx 0 4,.mem 2 0,.idx 1 4,.mem 2 1,.idx 2 4,.mem 2 2,.idx 3 4,.mem 2 3] [] [(18,.agg q.cells.toArray)] trivial (hk:=⟨(by decide),(by decide),(by decide),(by decide),trivial⟩) fun ac u E9 S=>anC S 0 (off:=0) (cs:=q.cells) rfl (fun u C10 S=>?_);have QN:=(qx ((Ch.trans Fs7 (Ch.jG E9))) C10 (by first | exact .inl rfl | exact .inr (by omega)));refine anu<|eu _ _<|anS S 0 Tryz.results51 rfl (v := .agg q.cells.toArray) ?_;exact⟨q,rfl,hq.symm,S.E,QN,S.bx 1⟩
end
section
open Go.RowKit
variable{α:Type}{K:Nat}
namespace Px
theorem aaE{l:List UInt8}{p:Nat}(hp:p≤l.length):En.Dy l (p:Int)=match En.qP 9 (l.drop p)with | .ok (n,k)=>(n,p+k,0) | .error e=>(0,0,e):=by
 unfold En.Dy;rw[an0 (by omega)]; rfl
theorem ok1{b:List UInt8}{p k x:Nat}(hp:p≤b.length)(hu:En.Dy b (p:Int)=(k,x,0)):∃c,En.qP 9 (b.drop p) = .ok (k,c)∧x=p+c∧x≤b.length∧1≤c:=by
 rw[aaE hp]at hu;cases hs:En.qP 9 (b.drop p)with
 | error e=>rw[hs]at hu; simp only[aob]at hu; have:=En.Ua 9 _ _ hs; omega
 | ok r =>
  obtain⟨k',c⟩:=r;rw[hs]at hu;simp only[aob]at hu;obtain⟨-,h1,h2,-⟩:=En.Ub hs;simp only[List.length_drop]at h2;exact⟨c,by rw[hu.1],by omega,by omega,h1⟩
end Px
end
end Go.Proofs.YtapmgonflgahbaaGreatDoor
section
namespace Go.Sx
open Go.Proofs.YtapmgonflgahbaaGreatDoor Go.RowKit Go.Rel
variable{P:Program}{ops:Array Oper}{Q:Exit→Act→World→Prop}{w0 w:World}{a:Act}{os:List Oper}{n:Nat}{l:List (Nat×Value)}{bl:List (Nat×List Value)}{vs:List gX}
def KA(os:List Oper):Option (TypeId×TypeId×Nat×Nat):=match os with
 | _::o::_=>(match o.guard,o.dst,o.op with
  | none,some d,.convert s t (.tmp x)=>some (s,t,x,d)
  | _,_,_=>none)
 | _=>none
theorem Fe{w:World}{A:List Value}{e:TypeId}{m:Nat}{fr:Nat×Nat}(hA:A.length=m)(hm:m≤maxLen)(h1:A.all (·.oneCell')=true):fK (w.alloc (.cells A.toArray e fr)) 1 (.slice (some ⟨w.heap.size,0,none⟩) m m) m A:=by
 refine⟨by omega,fun u hu=>by rw[aoA]at h1; exact h1 u hu,.inr ⟨w.heap.size,0,m,rfl,by simp,an7 _,hm,fun j u hj=>?_⟩⟩;have:(w.alloc (.cells A.toArray e fr)).heap[w.heap.size]?=some (.cells A.toArray e fr):=by
  show(w.heap.push (.cells A.toArray e fr))[w.heap.size]?=_;simp
 rw[aoY];unfold World.cell?;rw[this];simpa using hj
theorem lit(S:St w0 a w n l bl vs)(d1 d2 m:Nat)(A:List Value)(t e:TypeId)(ht:P.underlying t=some (.slice e))(he:P.underlying e=some (.int .u8))
  (next:∀{a' w' b},Ext w w'→fK w' 1 (.slice (some ⟨b,0,none⟩) m m) m A→St w0 a' w' n ((d2,.slice (some ⟨b,0,none⟩) m m)::l) bl vs→wpList P ops Q (os.drop 2) a' w')
  (hl:(l.lookup d1).isNone=true:=by kernel_rfl) (h12:(d1==d2)=false:=by rfl)
  (hx:∀r,um P r os l=some (A,e,.slice (some ⟨r,0,none⟩) m m,some d1):=by intro r; kernel_rfl) (h2:KA os=some (t,t,d1,d2):=by kernel_rfl) (hA:A.length=m:=by rfl) (hm:m≤maxLen:=by decide) (h1:A.all (·.oneCell')=true:=by kernel_rfl)
  (hd1:Cb n (some d1)=true:=by rfl) (hd2:Cb n (some d2)=true:=by rfl):wpList P ops Q os a w:=by
 have hx:=hx w.heap.size;cases os with
 | nil=>cases h2
 | cons o os =>
 cases os with
 | nil=>cases h2
 | cons o2 os =>
  unfold um at hx;unfold KA at h2;simp only at hx h2;split at hx
  ·rename_i A' ty k' hg hav hev;split at hx
   ·rename_i v hv;simp only[an8,aob]at hx;obtain⟨rfl,rfl,rfl,hdst⟩:=hx;simp only[aoP]at hav;have hc:execOp a.eval o=execOp (yL (lift l) []) o:=by
     refine execOp_congr o (fun cs b e1=>by rw[e1]at hav; cases hav.1) fun x hx=>?_;have h2:=hav.2;simp only[ao4,apT]at h2;obtain⟨v,hv⟩:=ao1.1 (h2 x hx);rw[jd (Std.act a) (jP (dU S.s) o x hx) (p:=[]) rfl hv];simp[yL,hv]
    have hv':ev0 P k'=some (.value (.slice (some ⟨w.heap.size,0,none⟩) m m)):=by
     unfold jh at hv;split at hv
     ·rename_i h; obtain h2:=aof hv; rw[h]; simp only[ED.val.injEq]at h2; rw[h2]
     ·cases hv
     cases hv
    have hrun:(execOp a.eval o).run P w = .ok (.value (.slice (some ⟨w.heap.size,0,none⟩) m m)) (w.alloc (.cells A'.toArray ty)):=by rw[hc,nN hev,oG hv']
    split at h2
    ·rename_i d s' t' x hg2 YX hop2;simp only[an8,aob]at h2;obtain⟨rfl,rfl,rfl,rfl⟩:=h2;unfold wpList;rw[an6 (by simp[Region.wanted,hg])];left;unfold Oper.wp;rw[hrun];simp only[Oper.upon];rw[hdst];have hs1:=wP (d:=some x) S.s hd1 (.slice (some ⟨w.heap.size,0,none⟩) m m);have ex:(a.put (some x) (.slice (some ⟨w.heap.size,0,none⟩) m m)).eval (.tmp x) = .slice (some ⟨w.heap.size,0,none⟩) m m:=hs1.has x _ (by simp[Iy]);have hrun2:(execOp (a.put (some x) (.slice (some ⟨w.heap.size,0,none⟩) m m)).eval o2).run P (w.alloc (.cells A'.toArray ty)) = .ok (.value (.slice (some ⟨w.heap.size,0,none⟩) m m)) (w.alloc (.cells A'.toArray ty (A'.toArray.size,A'.toArray.size+1))):=by
      unfold execOp;rw[hop2];simp only[ex];rw[aoV,Go.Lib.run_convert_bytes_const w _ ty A'.toArray m m ht he];rfl
     unfold wpList;rw[an6 (by simp[Region.wanted,hg2])];left;unfold Oper.wp;rw[hrun2];simp only[Oper.upon];rw[YX];have hs2:=wP (d:=some d) hs1 hd2 (.slice (some ⟨w.heap.size,0,none⟩) m m);have hE:Ext w (w.alloc (.cells A'.toArray ty (A'.toArray.size,A'.toArray.size+1))):=aG _ _;refine next hE (Fe hA hm h1) ((S.grow hE).act ⟨hs2.size,hs2.defers,fun i v hi=>hs2.has i v ?_⟩);simp only[Iy,aoN]at hi ⊢;by_cases hid:i=d
     ·subst hid; simpa using hi
     have e1:(i==d)=false:=by simpa using hid
     simp only[e1]at hi ⊢;by_cases hix:i=x
     ·subst hix;rw[Option.isNone_iff_eq_none.1 hl]at hi; cases hi
     have e2:(i==x)=false:=by simpa using hix
     simpa only[e2]using hi
    cases h2
   cases hx
  cases hx
def adG(os:List Oper)(l:List (Nat×Value)):Option (TypeId×TypeId×ByteArray×Nat):=match os with
 | o::_=>(match o.guard,o.dst,o.op with
  | none,some d,.convert s t x=>(match rd (lift l) [] x with
   | some (.string z)=>some (s,t,z,d)
   | _=>none)
  | _,_,_=>none)
 | _=>none
theorem bytesOf(S:St w0 a w n l bl vs)(d:Nat)(bs:List UInt8){src dst e:TypeId}(hs:P.underlying src=some .string)(hd:P.underlying dst=some (.slice e))(he:P.underlying e=some (.int .u8))(hn:bs.length≤maxLen)
  (next:∀{a' w' b cap},Ext w w'→bI w' (.slice (some ⟨b,0,none⟩) bs.length cap) bs→St w0 a' w' n ((d,.slice (some ⟨b,0,none⟩) bs.length cap)::l) bl vs→wpList P ops Q (os.drop 1) a' w')
  (hx:adG os l=some (src,dst,⟨bs.toArray⟩,d):=by kernel_rfl) (hdd:Cb n (some d)=true:=by rfl):wpList P ops Q os a w:=by
 cases os with
 | nil=>cases hx
 | cons o os =>
  unfold adG at hx;simp only at hx;split at hx
  ·rename_i d' s' t' x hg hdst hop;split at hx
   ·rename_i z hxx;simp only[an8,aob]at hx;obtain⟨rfl,rfl,rfl,rfl⟩:=hx;have hst:=jP (dU S.s) o;have ex:a.eval x = .string ⟨bs.toArray⟩:=jd (Std.act a) (hst x (by rw[hop]; simp[Op.operands])) (p:=[]) rfl hxx;have hsz:(⟨bs.toArray⟩:ByteArray).size=bs.length:=by simp[ByteArray.size]
    have hr:=Go.run_bytes_of_string (P:=P) w s' t' e ⟨bs.toArray⟩ hs hd he;rw[hsz]at hr;have hE:Ext w (w.drew.alloc (.cells (Go.bytesRow ⟨bs.toArray⟩ (grownCap w bs.length 0 e)) e ((Go.bytesRow ⟨bs.toArray⟩ (grownCap w bs.length 0 e)).size,(Go.bytesRow ⟨bs.toArray⟩ (grownCap w bs.length 0 e)).size+1))):=Ext.trans' (below_drewN (aor _ _) 1) (aG _ _);refine agZ S d' _ rfl hg hdst (by unfold execOp; rw[hop]; simp only[ex]; rw[aoV,hr]; rfl) hE (fun S=>next hE ⟨_,_,rfl,grownCap_le_maxLen _ _ _ _ hn,.inr ⟨_,0,rfl,by show w.heap.size<(w.heap.push _).size; rw[Array.size_push]; omega,grownCap_ge _ _ _ _,fun i hi=>?_⟩⟩ S) hdd;generalize grownCap w bs.length 0 e=cap;have:∀(A:Array Value) (fr:Nat×Nat),(w.drew.alloc (.cells A e fr)).heap[w.heap.size]?=some (.cells A e fr):=fun A fr=>by
     show(w.heap.push (.cells A e fr))[w.heap.size]?=_;simp
    rw[aoY];unfold World.cell?;rw[this];simp only[Go.bytesRow,List.map_toArray];rw[Array.getElem?_append_left (by simpa using hi)];simp[hi,dY]
   cases hx
  cases hx
end Go.Sx
end
section
namespace iF
def one(s:UInt32):UInt32:=if s&&&1=1 then (s>>>1)^^^0xedb88320 else s>>>1
def many:Nat→UInt32→UInt32
 | 0,s=>s
 | n+1,s=>one (many n s)
def byte(s:UInt32)(c:UInt8):UInt32:=many 8 (s^^^c.toUInt32)
def reg(s:UInt32)(l:List UInt8):UInt32:=l.foldl byte s
def update(s:UInt32)(l:List UInt8):UInt32:=(reg (s^^^0xffffffff) l)^^^0xffffffff
def crc(ls:List (List UInt8)):UInt32:=ls.foldl update 0
def le4(s:UInt32):List UInt8:=[s.toUInt8,(s>>>8).toUInt8,(s>>>16).toUInt8,(s>>>24).toUInt8]
def app(b:List UInt8):List UInt8:=b++le4 (update 0 b)
end iF
end
section
namespace iF
theorem ahk(s:UInt32):s&&&1=0∨s&&&1=1:=by
 have h:(s&&&1).toNat=s.toNat%2:=by rw[UInt32.toNat_and]; simp[Nat.and_one_is_mod]
 rcases Nat.mod_two_eq_zero_or_one s.toNat with e | e
 ·exact .inl (ao5.1 (by rw[h,e]; rfl))
 exact .inr (ao5.1 (by rw[h,e]; rfl))
theorem acC(a b c:UInt32):(a^^^b)&&&c=(a&&&c)^^^(b&&&c):=by
 apply UInt32.toBitVec_inj.1;simp only[UInt32.toBitVec_and,UInt32.toBitVec_xor];apply BitVec.eq_of_getLsbD_eq;intro i _;simp only[BitVec.getLsbD_and,BitVec.getLsbD_xor];cases a.toBitVec.getLsbD i<;>cases b.toBitVec.getLsbD i<;>cases c.toBitVec.getLsbD i<;>rfl
theorem acD(a b:UInt32)(k:UInt32):(a^^^b)>>>k=(a>>>k)^^^(b>>>k):=by
 apply UInt32.toBitVec_inj.1;simp only[UInt32.toBitVec_shiftRight,UInt32.toBitVec_xor];apply BitVec.eq_of_getLsbD_eq;intro i _;simp
theorem acE(a b:UInt32):one (a^^^b)=one a^^^one b:=by
 unfold one;rw[acC,acD];rcases ahk a with ha | ha<;>rcases ahk b with hb | hb<;>rw[ha,hb]
 ·simp
 ·simp[UInt32.xor_assoc]
 ·simp only[show(1^^^0:UInt32)=1 from rfl,if_true,show ¬(0:UInt32)=1 by decide,if_false];rw[ap4,ap4,UInt32.xor_comm (b>>>1)]
 simp only[show ¬(1^^^1:UInt32)=1 by decide,if_true,if_false];rw[ap4,←ap4 3988292384,UInt32.xor_comm 3988292384 (b>>>1),ap4 (b>>>1),UInt32.xor_self,UInt32.xor_zero]
theorem aaF(n:Nat)(a b:UInt32):many n (a^^^b)=many n a^^^many n b:=by
 induction n with
 | zero=>rfl
 | succ n ih=>simp only[many,ih,acE]
theorem aaG(m n:Nat)(s:UInt32):many (m+n) s=many m (many n s):=by
 induction m with
 | zero=>simp[many]
 | succ m ih=>rw[Nat.add_right_comm]; simp only[many,ih]
end iF
end
section
namespace iF
theorem aaH(z:UInt32)(h:z.toNat%2=0):(one z).toNat=z.toNat/2:=by
 have h0:¬z&&&1=1:=by
  intro h1;have:=an9 UInt32.toNat h1;rw[UInt32.toNat_and]at this;simp[Nat.and_one_is_mod]at this;omega
 unfold one;rw[an0 h0,apA];simp[Nat.shiftRight_eq_div_pow]
theorem Xo(n:Nat):∀z y:UInt32,z.toNat=y.toNat*2^n→many n z=y:=by
 induction n with
 | zero=>intro z y h; exact ao5.1 (by show z.toNat=y.toNat; simpa using h)
 | succ n ih =>
  intro z y h;rw[aaG n 1];rw[aoF,←aoI]at h;refine ih (one z) y ?_;rw[aaH z (by omega),h];omega
theorem Xp(y:UInt32)(h:y.toNat<16777216):many 8 (y<<<8)=y:=by
 apply Xo;rw[UInt32.toNat_shiftLeft];simp[Nat.shiftLeft_eq];omega
theorem acF(x:UInt32):(x>>>8).toNat<16777216:=by
 have:=x.toNat_lt;rw[apA];simp[Nat.shiftRight_eq_div_pow];omega
theorem ae6(x:UInt32):x.toUInt8.toUInt32^^^((x>>>8)<<<8)=x:=by
 apply ao5.1;have hx:=x.toNat_lt;rw[UInt32.toNat_xor,UInt32.toNat_shiftLeft,apA];have e1:x.toUInt8.toUInt32.toNat=x.toNat%2^8:=by simp
 have e2:(x.toNat>>>8)<<<8%2^32=(x.toNat>>>8)<<<8:=by
  simp[Nat.shiftRight_eq_div_pow,Nat.shiftLeft_eq]; omega
 rw[e1];show x.toNat%2^8^^^(x.toNat>>>8)<<<8%2^32=x.toNat;rw[e2];apply Nat.eq_of_testBit_eq;intro i;rw[Nat.testBit_xor,Nat.testBit_mod_two_pow,Nat.testBit_shiftLeft,Nat.testBit_shiftRight];by_cases h:i<8
 ·simp[h,show ¬8≤i by omega]
 simp[h,show 8≤i by omega,show 8+(i-8)=i by omega]
theorem ae7(x:UInt32):x&&&255=x.toUInt8.toUInt32:=by
 apply ao5.1;rw[UInt32.toNat_and];simp;exact Nat.and_two_pow_sub_one_eq_mod x.toNat 8
theorem aaI(s:UInt32)(c:UInt8):byte s c=many 8 ((s&&&255)^^^c.toUInt32)^^^(s>>>8):=by
 show many 8 (s^^^c.toUInt32)=_;rw[ae7];conv=>lhs; rw[←ae6 s]
 rw[ap4,UInt32.xor_comm _ c.toUInt32,←ap4,aaF,Xp _ (acF s)]
end iF
end
namespace Go.Proofs.YtapmgonflgahbaaGreatDoor
section
set_option maxHeartbeats 400000
open Go.RowKit
variable{α:Type}
theorem aaJ(s:UInt32)(l:List UInt8)(c:UInt8):iF.reg s (l++[c])=iF.byte (iF.reg s l) c:=by simp[iF.reg]
theorem Pz(s:UInt32)(l:List UInt8)(k:Nat)(h:k<l.length):iF.reg s (l.take (k+1))=iF.byte (iF.reg s (l.take k)) l[k]:=by
 rw[take_snoc l k h,aaJ]
theorem U2(x:UInt32)(h:(bits .and .u32 (x.toNat:Int) 1==1)=true):bits .xor .u32 ((x.toNat:Int)/(2:Int)) 3988292384=((iF.one x).toNat:Int):=by
 rw[Yl,agk];rw[TS]at h;have h':x&&&1=1:=by
  apply ao5.1;simp only[aoo]at h;have:=h; simp only[UInt32.reduceToNat]; omega
 simp[iF.one,h']
theorem aaK(x:UInt32)(h:(bits .and .u32 (x.toNat:Int) 1==1)=false):((x.toNat:Int)/(2:Int))=((iF.one x).toNat:Int):=by
 rw[Yl];rw[TS]at h;have h':¬x&&&1=1:=by
  intro e; rw[e]at h; simp at h
 simp[iF.one,h']
theorem PD(s:UInt32)(v:Value)(l:List UInt8)(w:World)(hv:bI w v l) :
  Calls Tryz.prog 149 #[aY s,v] w fun e w'=>e = .returned (aY (iF.update s l))∧w=w':=by
 obtain⟨a,cap,rfl,hm,ha⟩:=hv;have hl:=pU hm ha;have HA:=anU ha;clear ha;go_enter Tryz.func149,Tryz.ntmps149
 go_wp2
 go_loop [0,12] (fun s1 i=>∃k:Nat,k≤l.length∧i = .i k∧s1=aY (iF.reg (s^^^0xffffffff) (l.take k))) (fun _ i=>l.length-(intOf i).toNat)
 case atStart=>exact⟨0,aoa _,rfl,by rw[adi,Yn]; rfl⟩
 case round =>
  obtain⟨k,hk,rfl,rfl⟩:=hrel;by_cases hlt:k<l.length
  ·rcases HA.out with ⟨rfl,_⟩ | ⟨b,o,rfl,hb,hlc,hc⟩
   ·simp at hlt
   have hck:=hc k hlt;go_wp2
   go_loop [0,20] (fun s1 i=>∃j:Nat,j≤8∧i = .i j∧s1=aY (iF.many j ((iF.reg (s^^^0xffffffff) (l.take k))^^^l[k].toUInt32))) (fun _ i=>8-(intOf i).toNat)
   case atStart=>exact⟨0,aoa _,rfl,by rw[Ym,Vt]; rfl⟩
   case round =>
    obtain⟨j,hj,rfl,rfl⟩:=hrel;by_cases hlt:j<8
    ·have E:Hid (iF.many (j+1) ((iF.reg (s^^^0xffffffff) (l.take k))^^^l[k].toUInt32)=iF.one (iF.many j ((iF.reg (s^^^0xffffffff) (l.take k))^^^l[k].toUInt32))):=rfl;generalize iF.many j ((iF.reg (s^^^0xffffffff) (l.take k))^^^l[k].toUInt32)=x at E;go_wp2
     ·go_round
      case rel=>exact⟨j+1,by omega,by go_num,by rw[E.out,U2 x ‹_›]⟩
      case measure=>simp[intOf]; omega
     go_round
     case rel=>exact⟨j+1,by omega,by go_num,by rw[E.out,aaK x ‹_›]⟩
     case measure=>simp[intOf]; omega
    obtain rfl:j=8:=by omega
    go_wp2
    go_round
    case rel=>exact⟨k+1,by omega,by go_num,by rw[Pz _ _ _ ‹_›]; rfl⟩
    case measure=>simp[intOf]; omega
  obtain rfl:k=l.length:=by omega
  go_wp2
  go_ret
  exact⟨dV (by rw[adi,Yn]; simp only[iF.update]),rfl⟩
theorem aaL(l:List (List UInt8))(k:Nat)(h:k<l.length):iF.crc (l.take (k+1))=iF.update (iF.crc (l.take k)) l[k]:=by
 rw[take_snoc l k h]; simp only[iF.crc,List.foldl_append,List.foldl_cons,List.foldl_nil]
theorem crc32(v:Value)(l:List (List UInt8))(w:World)(hv:xX w v l) :
  Calls Tryz.prog 88 #[v] w fun e w'=>e = .returned (aY (iF.crc l))∧w=w':=by
 obtain⟨a,cap,rfl,hm,ha⟩:=hv;have hl:=Yj hm ha;have HA:=anU ha;clear ha;go_enter Tryz.func88,Tryz.ntmps88
 go_wp2
 go_loop [3,8] (fun s1 i=>∃k:Nat,k≤l.length∧i = .i k∧s1=aY (iF.crc (l.take k))) (fun _ i=>l.length-(intOf i).toNat)
 case atStart=>exact⟨0,aoa _,rfl,rfl⟩
 case round =>
  obtain⟨k,hk,rfl,rfl⟩:=hrel;by_cases hlt:k<l.length
  ·rcases HA.out with ⟨rfl,_⟩ | ⟨b,o,rfl,hb,hlc,hc⟩
   ·simp at hlt
   obtain⟨x,hck,hx⟩:=hc k hlt;go_wp2_with fail
   refine(PD _ x l[k] _ hx).mono ?_;rintro e w' ⟨rfl,rfl⟩;go_wp2
   go_round
   case rel=>exact⟨k+1,by omega,by go_num,by rw[aaL l k ‹_›]⟩
   case measure=>simp[intOf]; omega
  obtain rfl:k=l.length:=by omega
  go_wp2
  go_ret
  exact⟨dV (by simp only),rfl⟩
theorem aaM(x:UInt32)(h:((x.toNat:Int)%2==1)=true):bits .xor .u32 ((x.toNat:Int)/2%4294967296) 3988292384=((iF.one x).toNat:Int):=by
 have e:((x.toNat:Int)/2%4294967296)=(x.toNat:Int)/2:=by have:=x.toNat_lt; omega
 rw[e];exact U2 x (by rw[TS,TR]; exact h)
theorem acG(x:UInt32)(h:((x.toNat:Int)%2==1)=false):((x.toNat:Int)/2%4294967296)=((iF.one x).toNat:Int):=by
 have e:((x.toNat:Int)/2%4294967296)=(x.toNat:Int)/2:=by have:=x.toNat_lt; omega
 rw[e];exact aaK x (by rw[TS,TR]; exact h)
theorem ae8(s:UInt32)(w:World) :
  Calls Tryz.prog 137 #[aY s] w fun e w'=>e = .returned (aY (iF.many 8 s))∧w=w':=by
 go_enter Tryz.func137,Tryz.ntmps137
 go_wp2
 go_loop [0,3] (fun s1 i=>∃j:Nat,j≤8∧i = .i j∧s1=aY (iF.many j s)) (fun _ i=>8-(intOf i).toNat)
 case atStart=>exact⟨0,aoa _,rfl,rfl⟩
 case round =>
  obtain⟨j,hj,rfl,rfl⟩:=hrel;by_cases hlt:j<8
  ·have E:Hid (iF.many (j+1) s=iF.one (iF.many j s)):=rfl;generalize iF.many j s=x at E;go_wp2
   ·go_round
    case rel=>exact⟨j+1,by omega,by go_num,by rw[E.out,aaM x ‹_›]⟩
    case measure=>simp[intOf]; omega
   go_round
   case rel=>exact⟨j+1,by omega,by go_num,by rw[E.out,acG x ‹_›]⟩
   case measure=>simp[intOf]; omega
  obtain rfl:j=8:=by omega
  go_wp2
  go_ret
  exact⟨rfl,rfl⟩
end
section
set_option maxHeartbeats 400000
open Go.RowKit
variable{α:Type}
theorem aaN(x:UInt32)(c:UInt8):bits .xor .u32 ((iF.many 8 ((x&&&255)^^^c.toUInt32)).toNat:Int) ((x>>>8).toNat:Int)=((iF.byte x c).toNat:Int):=by
 rw[Vt,iF.aaI]
theorem Xq(s:UInt32)(v:Value)(l:List UInt8)(w:World)(hv:bI w v l) :
  Calls Tryz.prog 76 #[aY s,v] w fun e w'=>e = .returned (aY (iF.update s l))∧w=w':=by
 obtain⟨a,cap,rfl,hm,ha⟩:=hv;have hl:=pU hm ha;have HA:=anU ha;clear ha;go_enter Tryz.func76,Tryz.ntmps76
 go_wp2
 go_loop [5,6] (fun s1 i=>∃k:Nat,k≤l.length∧i = .i k∧s1=aY (iF.reg (s^^^0xffffffff) (l.take k))) (fun _ i=>l.length-(intOf i).toNat)
 case atStart=>exact⟨0,aoa _,rfl,by rw[adk]; rfl⟩
 case round =>
  obtain⟨k,hk,rfl,rfl⟩:=hrel;by_cases hlt:k<l.length
  ·rcases HA.out with ⟨rfl,_⟩ | ⟨b,o,rfl,hb,hlc,hc⟩
   ·simp at hlt
   have hck:=hc k hlt;have E:=anU (Pz (s^^^0xffffffff) l k hlt);generalize iF.reg (s^^^0xffffffff) (l.take k)=x at E;go_wp2_with fail
   rw[adR,Ym,Vt];refine(ae8 _ _).mono ?_;rintro e w' ⟨rfl,rfl⟩;go_wp2
   go_round
   case rel=>exact⟨k+1,by omega,by go_num,by rw[E.out,Qs,aaN]⟩
   case measure=>simp[intOf]; omega
  obtain rfl:k=l.length:=by omega
  go_wp2
  go_ret
  exact⟨dV (by simp only[adk]; rfl),rfl⟩
theorem aaO(v:Value)(l:List UInt8)(w:World)(hv:bI w v l)(hlen:l.length≤140737488355328) :
  Calls Tryz.prog 89 #[v] w fun e w'=>∃v',e = .returned v'∧w'.ownsRow w.heap.size 5 1 v' l.length (l.map dY)∧Below w.heap.size w w':=by
 have hr:=hv.raw (fun _=>rfl);obtain⟨a,cap,rfl,hm,ha⟩:=hv;rcases a with _ | ad
 ·have hz:l=[]∧cap=0:=by
   rcases ha with ⟨h,h0⟩ | ⟨b,o,h,_⟩
   ·exact⟨h,h0 rfl⟩
   cases h
  obtain⟨rfl,rfl⟩:=hz;have hnil:=Lib.run_eql_slice_nil (P:=Tryz.prog) w 49 5 none 0 0 0 0 Tryz.underlying49;clear ha hr;go_enter Tryz.func89,Tryz.ntmps89
  go_wp2
  go_ret
  exact⟨_,rfl,ap5 _ _ _ _,aor _ _⟩
 have hnil:=Lib.run_eql_slice_nil (P:=Tryz.prog) w 49 5 (some ad) l.length cap 0 0 Tryz.underlying49;have hown:=apf (base:=w.heap.size) (e:=5) (size:=1) w #[] 0 (an7 _) (aoa _) rfl;have hr:=Cj hr (.cells #[] 5);have h63:0+l.length≤maxLen:=by
  rcases ha with ⟨rfl,_⟩ | ⟨b,o,_,_,h,_⟩
  ·simp
  omega
 have hby:(0+l.length)*1≤140737488355328:=by omega
 clear ha;go_enter Tryz.func89,Tryz.ntmps89
 go_wp2_with (at_builtin; refine aQ rfl _ _ _ rfl nX w.heap.size hown rfl hr rfl h63 hby (by simp) ?_; intro v' w' hown' hg)
 go_ret
 simp only[aoY,apE]at hown';exact⟨_,rfl,by simpa using hown',((aor _ _).alloc (an7 _) _).grown hg (by simp) (by simp[Value.ownBlock])⟩
theorem U3(l:List UInt8):iF.crc [l]=iF.update 0 l:=rfl
theorem U4(x:UInt32):(x.toNat:Int)/(65536:Int)=((x>>>16).toNat:Int):=by
 rw[apA]; simp[Nat.shiftRight_eq_div_pow]
theorem U5(x:UInt32):(x.toNat:Int)/(16777216:Int)=((x>>>24).toNat:Int):=by
 rw[apA]; simp[Nat.shiftRight_eq_div_pow]
theorem Xr(x:UInt32):(iF.le4 x).map dY =
  [.u ((x.toNat:Int)%256),.u ((x.toNat:Int)/256%256),.u ((x.toNat:Int)/65536%256),.u ((x.toNat:Int)/16777216%256)]:=by
 simp only[iF.le4,aoS,apo,dY];rw[Qs,U4,U5,wJ,wJ,wJ,wJ]
theorem U6(x:UInt32)(w:World)(e:TypeId):fK (w.alloc (.cells #[.u ((x.toNat:Int)%256),.u ((x.toNat:Int)/256%256),.u ((x.toNat:Int)/65536%256),.u ((x.toNat:Int)/16777216%256)] e)) 1
  (.slice (some ⟨w.heap.size,0,none⟩) 4 4) 4 ((iF.le4 x).map dY):=by
 rw[Xr];exact JU w _ e 4 1 rfl (by unfold maxLen; omega) (by intro u hu; simp at hu; rcases hu with rfl | rfl | rfl | rfl<;>rfl)
theorem ug(v:Value)(l:List UInt8)(w:World)(hv:bI w v l)(hlen:l.length≤100000000) :
  Calls Tryz.prog 37 #[v] w fun e w'=>∃v',e = .returned v' ∧
   w'.ownsRow w.heap.size 5 1 v' (l++iF.le4 (iF.update 0 l)).length ((l++iF.le4 (iF.update 0 l)).map dY)∧Below w.heap.size w w':=by
 obtain⟨a,cap,rfl⟩:∃a cap,v = .slice a l.length cap:=by obtain⟨a,cap,h,_⟩:=hv; exact⟨a,cap,h⟩
 have hp:=TP (R:=bI) w (.slice a l.length cap) l 49 (hv.below (aG _ _));have hv1:=hv.below (aG w (.cells #[.slice a l.length cap] 49));have h63:l.length+4≤maxLen:=by unfold maxLen; omega
 have hby:(l.length+4)*1≤140737488355328:=by omega
 go_enter Tryz.func37,Tryz.ntmps37
 go_wp2_with fail
 refine(crc32 _ _ _ hp).mono ?_;rintro e w' ⟨rfl,rfl⟩;rw[U3];go_wp2_with fail
 refine(aaO _ _ _ hv1 (by omega)).mono ?_;rintro e w2 ⟨v2,rfl,hown,hb2⟩;have hb2':Below w.heap.size w w2:=(aG _ _).trans (hb2.mono (by simp));generalize hx:iF.update 0 l=x;have HX:=anU hx;clear hx;have hr:=U6 x w2 5;have hown':=(au hown (show w.heap.size≤_ by simp)).alloc (.cells #[.u ((x.toNat:Int)%256),.u ((x.toNat:Int)/256%256),.u ((x.toNat:Int)/65536%256),.u ((x.toNat:Int)/16777216%256)] 5);have hsz:w.heap.size≤w2.heap.size:=by have:=hb2.size; simp at this; omega
 have hsz':w.heap.size≤(w2.alloc (.cells #[.u ((x.toNat:Int)%256),.u ((x.toNat:Int)/256%256),.u ((x.toNat:Int)/65536%256),.u ((x.toNat:Int)/16777216%256)] 5)).heap.size:=by simp; omega
 clear hown;go_wp2_with (at_builtin; refine aQ rfl _ _ _ rfl nX w.heap.size hown' rfl hr rfl h63 hby hsz' ?_; intro v' w' hown' hg)
 go_ret
 refine⟨_,rfl,by rw[HX.out]; simpa[iF.le4]using hown',(hb2'.alloc hsz _).grown hg hsz' ?_⟩;exact fun k hk=>(World.ownsRow.lt ‹_› k hk).1
theorem IU(f:α→Value)(l:List α)(k:Nat)(h:k<l.length):(l.take (k+1)).map f=(l.take k).map f++[f l[k]]:=by
 rw[take_snoc l k h,aoL]; rfl
theorem uT(v:Value)(l:List UInt8)(w:World)(hv:bI w v l)(hlen:l.length≤100000000) :
  Calls Tryz.prog 31 #[v] w fun e w'=>∃v',e = .returned v' ∧
   w'.ownsRow w.heap.size 5 1 v' (l++iF.le4 (iF.update 0 l)).length ((l++iF.le4 (iF.update 0 l)).map dY)∧Below w.heap.size w w':=by
 have hv0:=hv;obtain⟨a,cap,rfl,hm,ha⟩:=hv;have hl:=pU hm ha;have HA:=anU ha;clear ha;go_enter Tryz.func31,Tryz.ntmps31
 go_wp2
 go_loopw [3,4] (fun out i wr=>∃k:Nat,k≤l.length∧i = .i k∧wr.ownsRow w.heap.size 5 1 out k ((l.take k).map dY)∧Below w.heap.size w wr) (fun _ i _=>l.length-(intOf i).toNat)
 case atStart=>exact⟨0,aoa _,rfl,apf w #[] 0 (an7 _) (aoa _) rfl,aG _ _⟩
 case round =>
  obtain⟨k,hk,rfl,hown,hbel⟩:=hrel;by_cases hlt:k<l.length
  ·rcases HA.out with ⟨rfl,_⟩ | ⟨b,o,rfl,hb,hlc,hc⟩
   ·simp at hlt
   have hck:wr.cell? ⟨b,o+k,none⟩=some (dY l[k]):=by rw[hbel.cell (p:=⟨b,o+k,none⟩) hb]; exact hc k hlt
   clear hc;have hr:=jr wr (dY l[k]) 5 rfl;have hown':=hown.alloc (.cells #[dY l[k]] 5);have h63:k+1≤maxLen:=by unfold maxLen; omega
   have hby:(k+1)*1≤140737488355328:=by omega
   have hsz:w.heap.size≤wr.heap.size:=hbel.size;have hsz':w.heap.size≤(wr.alloc (.cells #[dY l[k]] 5)).heap.size:=by simp; omega
   clear hown;go_wp2_with (at_builtin; refine aQ rfl _ _ _ rfl nX w.heap.size hown' rfl hr rfl h63 hby hsz' ?_; intro v' w' hown2 hg)
   go_roundw
   case rel=>exact⟨k+1,by omega,by go_num,by rw[IU _ _ _ ‹_›]; exact hown2,(hbel.alloc hsz _).grown hg hsz' (fun k hk=>(World.ownsRow.lt hown' k hk).1)⟩
   case measure=>simp[intOf]; omega
  obtain rfl:k=l.length:=by omega
  have hv1:=hv0.below hbel;simp only[aoQ]at hown;go_wp2_with fail
  refine(Xq 0 _ _ _ hv1).mono ?_;rintro e w' ⟨rfl,rfl⟩;generalize hx:iF.update 0 l=x;have HX:=anU hx;clear hx;have hr:=U6 x wr 5;have hown':=hown.alloc (.cells #[.u ((x.toNat:Int)%256),.u ((x.toNat:Int)/256%256),.u ((x.toNat:Int)/65536%256),.u ((x.toNat:Int)/16777216%256)] 5);have hsz:w.heap.size≤wr.heap.size:=hbel.size;have hsz':w.heap.size≤(wr.alloc (.cells #[.u ((x.toNat:Int)%256),.u ((x.toNat:Int)/256%256),.u ((x.toNat:Int)/65536%256),.u ((x.toNat:Int)/16777216%256)] 5)).heap.size:=by simp; omega
  have h63:l.length+4≤maxLen:=by unfold maxLen; omega
  have hby:(l.length+4)*1≤140737488355328:=by omega
  clear hown;go_wp2_with (at_builtin; refine aQ rfl _ _ _ rfl nX w.heap.size hown' rfl hr rfl h63 hby hsz' ?_; intro v' w' hown2 hg)
  go_ret
  exact⟨_,rfl,by rw[HX.out]; simpa[iF.le4]using hown2,(hbel.alloc hsz _).grown hg hsz' (fun k hk=>(World.ownsRow.lt hown' k hk).1)⟩
theorem PE{c y:UInt8}{z:Int}(hz:z=(y.toNat:Int)):((c.toNat:Int) != z)=(c != y):=by
 subst hz;rw[aoR,bne_iff_ne,bne_iff_ne];constructor
 ·intro h e; exact h (by rw[e])
 intro h e; exact h (aps.1 (by omega))
theorem adH(x:UInt32):(x.toNat:Int)%(256:Int)=(x.toUInt8.toNat:Int):=wJ x
theorem adI(x:UInt32):(x.toNat:Int)/(256:Int)%(256:Int)=((x>>>8).toUInt8.toNat:Int):=by rw[Qs,wJ]
theorem adJ(x:UInt32):(x.toNat:Int)/(65536:Int)%(256:Int)=((x>>>16).toUInt8.toNat:Int):=by rw[U4,wJ]
theorem adK(x:UInt32):(x.toNat:Int)/(16777216:Int)%(256:Int)=((x>>>24).toUInt8.toNat:Int):=by rw[U5,wJ]
theorem four(l:List UInt8)(m:Nat)(h:l.length=m+4):∃c0 c1 c2 c3,l.drop m=[c0,c1,c2,c3]:=by
 have e:(l.drop m).length=4:=by simp; omega
 match l.drop m,e with
 | [c0,c1,c2,c3],_=>exact⟨c0,c1,c2,c3,rfl⟩
def Xt(c0 c1 c2 c3:UInt8)(x:UInt32)(k:Nat):Prop:=[c0,c1,c2,c3].take k=(iF.le4 x).take k
theorem PG(v:Value)(l:List UInt8)(m:Nat)(w:World)(hv:bI w v l)(hlen:l.length=m+4)(hm:m≤100000000) :
  Calls Tryz.prog 101 #[v] w fun e w'=>∃v' k,e = .returned (.tuple #[v',.i k])∧Below w.heap.size w w' ∧
   (l.drop m=iF.le4 (iF.update 0 (l.take m))→k=0∧bI w' v' (l.take m))∧(l.drop m≠iF.le4 (iF.update 0 (l.take m))→k=19∧v' = .sn):=by
 obtain⟨a,cap,rfl,hcap,ha⟩:=hv;rcases ha with ⟨rfl,_⟩ | ⟨b,o,rfl,hb,hlc,hc⟩
 ·simp at hlen
 have hr:=Yk (n:=m) hb hlc hcap (by omega) hc;have hp:=TP (R:=bI) w (.slice (some ⟨b,o,none⟩) m cap) (l.take m) 49 (hr.below (aG _ _));have hr1:=hr.below (aG w (.cells #[.slice (some ⟨b,o,none⟩) m cap] 49));have hlt:m≤cap:=by omega
 have hne:¬m=cap:=by omega
 have hmc:m<cap:=by omega
 go_enter Tryz.func101,Tryz.ntmps101
 go_wp2_with fail
 refine(crc32 _ _ _ hp).mono ?_;rintro e w' ⟨rfl,rfl⟩;rw[U3];go_wp2_with fail
 generalize hx:iF.update 0 (l.take m)=x;have HX:=anU hx;clear hx hr;obtain⟨c0,c1,c2,c3,hd⟩:=four l m hlen;have hcd:∀k (h:k<4),(w.alloc (.cells #[.slice (some ⟨b,o,none⟩) m cap] 49)).cell? ⟨b,o+m+k,none⟩=some (dY ([c0,c1,c2,c3][k])):=by
  intro k hk;rw[World.cell?_alloc_past _ _ _ hb,apG,hc (m+k) (by omega)];simp only[←hd];rw[List.getElem_drop]
 have HC:=anU hcd;have HD:=anU hd;clear hcd hc hd;go_loop [22] (fun i=>∃k:Nat,k≤4∧i = .i k∧Xt c0 c1 c2 c3 x k) (fun i=>4-(intOf i).toNat)
 case atStart=>exact⟨0,by omega,rfl,rfl⟩
 case round =>
  obtain⟨k,hk,rfl,heq⟩:=hrel;have HE:=anU heq;clear heq;have hk':k=0∨k=1∨k=2∨k=3∨k=4:=by omega
  rcases hk' with rfl | rfl | rfl | rfl | rfl
  ·have hck:=HC.out 0 (by omega);simp only[apP,aqd]at hck;go_wp2
   ·have h := ‹((c0.toNat:Int) != _)=true›;rw[PE (adH x)]at h;go_ret2
    exact⟨_,_,rfl,aG _ _,fun e=>by rw[HD.out,HX.out]at e; simp[iF.le4]at e; simp[e]at h,fun _=>⟨rfl,rfl⟩⟩
   have h := ‹((c0.toNat:Int) != _)=false›;rw[PE (adH x)]at h;go_round
   case rel=>exact⟨1,by omega,rfl,by simp[Xt,iF.le4]at h ⊢; exact h⟩
   case measure=>simp[intOf]
  ·have hck:=HC.out 1 (by omega);simp only[aqd,List.getElem_cons_succ]at hck;go_wp2
   ·have h := ‹((c1.toNat:Int) != _)=true›;rw[PE (adI x)]at h;go_ret2
    exact⟨_,_,rfl,aG _ _,fun e=>by rw[HD.out,HX.out]at e; simp[iF.le4]at e; simp[e]at h,fun _=>⟨rfl,rfl⟩⟩
   have h := ‹((c1.toNat:Int) != _)=false›;rw[PE (adI x)]at h;go_round
   case rel=>exact⟨2,by omega,rfl,by have:=HE.out; simp[Xt,iF.le4]at h this ⊢; exact⟨this,h⟩⟩
   case measure=>simp[intOf]
  ·have hck:=HC.out 2 (by omega);simp only[aqd,List.getElem_cons_succ]at hck;go_wp2
   ·have h := ‹((c2.toNat:Int) != _)=true›;rw[PE (adJ x)]at h;go_ret2
    exact⟨_,_,rfl,aG _ _,fun e=>by rw[HD.out,HX.out]at e; simp[iF.le4]at e; simp[e]at h,fun _=>⟨rfl,rfl⟩⟩
   have h := ‹((c2.toNat:Int) != _)=false›;rw[PE (adJ x)]at h;go_round
   case rel=>exact⟨3,by omega,rfl,by have:=HE.out; simp[Xt,iF.le4]at h this ⊢; exact⟨this.1,this.2,h⟩⟩
   case measure=>simp[intOf]
  ·have hck:=HC.out 3 (by omega);simp only[aqd,List.getElem_cons_succ]at hck;go_wp2
   ·have h := ‹((c3.toNat:Int) != _)=true›;rw[PE (adK x)]at h;go_ret2
    exact⟨_,_,rfl,aG _ _,fun e=>by rw[HD.out,HX.out]at e; simp[iF.le4]at e; simp[e]at h,fun _=>⟨rfl,rfl⟩⟩
   have h := ‹((c3.toNat:Int) != _)=false›;rw[PE (adK x)]at h;go_round
   case rel=>exact⟨4,by omega,rfl,by have:=HE.out; simp[Xt,iF.le4]at h this ⊢; exact⟨this.1,this.2.1,this.2.2,h⟩⟩
   case measure=>simp[intOf]
  have e:l.drop m=iF.le4 (iF.update 0 (l.take m)):=by
   rw[HD.out,HX.out]; have:=HE.out; simpa[Xt,iF.le4]using this
  have HF:=anU e;clear e;go_wp2_with fail
  refine(aaO _ _ _ hr1 (by simp; omega)).mono ?_;rintro e w2 ⟨v2,rfl,hown,hb2⟩;have hrow:=aU hown;clear hown;go_wp2_with fail
  go_ret2
  exact⟨_,_,rfl,(aG _ _).trans (hb2.mono (by simp)),fun _=>⟨rfl,hrow⟩,fun h=>(h HF.out).elim⟩
end
end Go.Proofs.YtapmgonflgahbaaGreatDoor
