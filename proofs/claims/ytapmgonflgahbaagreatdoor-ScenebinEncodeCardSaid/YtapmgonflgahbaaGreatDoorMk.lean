/- A region that draws its order, where a constant's bytes -/
import Derived.Test.YtapmgonflgahbaaGreatDoorPk36
import Derived.Test.YtapmgonflgahbaaGreatDoorPk33
set_option linter.unusedVariables false
namespace Go.Sx
open Go.Proofs.YtapmgonflgahbaaGreatDoor Go.RowKit Go.Rel
variable{α:Type}{P:Program}{ops:Array Oper}{Q:Exit→Act→World→Prop}{w0 w:World}{a:Act}{os:List Oper}{n:Nat}{l:List (Nat×Value)}{bl:List (Nat×List Value)}{vs:List gX}{o:Oper}{ρ:Operand→Value}
structure Ml (B:Nat) (w w':World):Prop where
 below:Below B w w'
 cells:∀b,b<w.heap.size→∀i,w'.cell? ⟨b,i,none⟩=w.cell? ⟨b,i,none⟩
 shape:∀b,b<w.heap.size→w'.shape? b=w.shape? b
theorem Ml.of{B:Nat}{w w':World}(h:Ext w w')(hB:B≤w.heap.size):Ml B w w':=
 ⟨h.mono hB,fun b hb i=>h.cell (p:=⟨b,i,none⟩) hb,fun b hb=>by unfold World.shape?; rw[h.block b hb]⟩
theorem VU{w:World}{B b k:Nat}(hb:B≤b):Ml B w (w.freeze ⟨b,k,none⟩ 1):=by
 have ad9:∀j,(w.freeze ⟨b,k,none⟩ 1).heap[j]?=if b=j then (w.heap[j]?).map (fun | .cells c elem (lo,hi) => .cells c elem (if lo==hi then (k,k+1)else (min lo k,max hi (k+1))) | o=>o)else w.heap[j]?:=fun j=>by
  unfold World.freeze;rw[an0 (by decide)];exact Array.getElem?_modify
 refine⟨⟨rfl,rfl,rfl,?_,fun j hj=>?_⟩,fun j _ i=>?_,fun j _=>?_⟩
 ·unfold World.freeze; rw[an0 (by decide)]; simp
 ·rw[ad9,an0 (by omega)]
 ·unfold World.cell?;rw[show(w.freeze ⟨b,k,none⟩ 1).heap[(⟨j,i,none⟩:Addr).block]?=_ from ad9 j];by_cases hbj:b=j
  ·rw[an6 hbj];show _=match w.heap[j]? with | some (.cells c _ _)=>_ | _=>none
   cases h:w.heap[j]? with
   | none=>rfl
   | some x=>cases x<;>rfl
  rw[an0 hbj]
 unfold World.shape?;rw[ad9 j];by_cases hbj:b=j
 ·rw[an6 hbj];cases h:w.heap[j]? with
  | none=>rfl
  | some x=>cases x<;>rfl
 rw[an0 hbj]
def Pf(base:Nat)(f:α→Value)(l:List α):Fact:=fun v w=>∃b cap,v = .slice (some ⟨b,0,none⟩) l.length cap∧base≤b∧b<w.heap.size∧l.length≤cap∧cap≤maxLen∧∀i (h:i<l.length),w.cell? ⟨b,i,none⟩=some (f l[i])
theorem Pf.mono{base B:Nat}{f:α→Value}{l:List α}:Rel.VW (Ml B) (Pf base f l):=fun v w w' hR ⟨b,cap,h1,h2,h3,h4,h5,h6⟩=>⟨b,cap,h1,h2,aoC h3 hR.below.size,h4,h5,fun i hi=>(hR.cells b h3 i).trans (h6 i hi)⟩
theorem Pf.row{base:Nat}{f:α→Value}{l:List α}{v:Value}{w:World}(h:Pf base f l v w):aV 1 (fun x=>[f x]) w v l:=by
 obtain⟨b,cap,rfl,h2,h3,h4,h5,h6⟩:=h;refine⟨_,_,rfl,h5,.inr ⟨b,0,rfl,h3,h4,fun i hi j hj=>?_⟩⟩;obtain rfl:j=0:=by omega
 rw[show 0+i*1+0=i by omega,h6 i hi];rfl
theorem Pf.dep{base:Nat}{f:α→Value}{l:List α}{v:Value}{w:World}(h:Pf base f l v w):oD base (fun W=>aV 1 (fun x=>[f x]) W v l) w:=fun w' hs hk=>by
 obtain⟨b,cap,rfl,h2,h3,h4,h5,h6⟩:=h;exact Pf.row (base:=base) ⟨b,cap,rfl,h2,aoC h3 hs,h4,h5,fun i hi=>(World.cell?_of_block (a:=⟨b,i,none⟩) (hk b h3 h2)).trans (h6 i hi)⟩
theorem Pf.of{base B:Nat}{e:TypeId}{f:α→Value}{l:List α}{v:Value}{w:World}(h:w.ownsRow base e 1 v l.length (l.map f))(hB:B≤base)(hn:0<l.length):Pf B f l v w:=by
 have hlt:=fun g hg=>Sx.nC h (g:=g) hg;obtain⟨h1,⟨-,h0⟩ | ⟨g,cap,cur,rfl,h2,h3,h4,h5,h6,h7⟩⟩:=h
 ·omega
 refine⟨g,cap,rfl,aoE hB h2,(hlt g rfl).2,h4,h5,fun i hi=>?_⟩;rw[(Sx.QY h3).2.1];have h8:(l.map f)[i]?=some (f l[i]):=by simp[hi]
 rw[←h7,List.getElem?_take]at h8;split at h8
 ·simpa using h8
 cases h8
theorem Pf.new{base B:Nat}{f:α→Value}{l:List α}{v:Value}{w:World}(h:dX base (l.map f) (some l.length) v w)(hB:B≤base)(hm:l.length≤maxLen):Pf B f l v w:=by
 obtain⟨b,rfl,h2,h3⟩:=h;refine⟨b,l.length,rfl,aoE hB h2,h3.1,an7 _,hm,fun i hi=>(h3.2.1 i).trans ?_⟩;simp[hi]
def Pm(base:Nat)(f:α→Value)(l:List α):Fact:=fun v w=>Pf base f l v w∧∃b t k,v = .slice (some ⟨b,0,none⟩) l.length l.length∧base≤b∧b<w.heap.size∧w.shape? b=some (t,k)
theorem Pm.mono{base B:Nat}{f:α→Value}{l:List α}:Rel.VW (Ml B) (Pm base f l):=fun v w w' hR ⟨h,b,t,k,h1,h2,h3,h4⟩=>⟨Pf.mono v w w' hR h,b,t,k,h1,h2,aoC h3 hR.below.size,(hR.shape b h3).trans h4⟩
theorem Pm.new{base B:Nat}{f:α→Value}{l:List α}{v:Value}{w:World}(h:dX base (l.map f) (some l.length) v w)(hB:B≤base)(hm:l.length≤maxLen)(hn:0<l.length):Pm B f l v w:=by
 refine⟨Pf.new h hB hm,?_⟩;obtain⟨b,rfl,h2,h3⟩:=h;have h4:=h3.2.1 0;have h5:∃t k,w.shape? b=some (t,k):=by
  unfold World.cell? at h4;unfold World.shape?;simp only at h4;cases hb:w.heap[b]? with
  | none=>rw[hb]at h4; simp[hn]at h4
  | some x=>rw[hb]at h4; cases x<;>first | exact⟨_,_,rfl⟩ | (simp[hn]at h4)
 obtain⟨t,k,h5⟩:=h5;exact⟨b,t,k,rfl,aoE hB h2,h3.1,h5⟩
def mkB(P:Program)(o:Oper):Option Nat:=match o.op with
 | .convert s t (.tmp x)=>(match s==t,P.underlying s with
  | true,some (.slice e)=>(match P.underlying e with
   | some (.int .u8)=>some x
   | _=>none)
  | _,_=>none)
 | _=>none
theorem agp{x b n' c k:Nat}{t:TypeId}(hx:ρ (.tmp x) = .slice (some ⟨b,0,none⟩) n' c)(hsh:w.shape? b=some (t,k)){K:Value→World→Prop}(hK:K (.slice (some ⟨b,0,none⟩) n' c) (w.freeze ⟨b,k,none⟩ 1))(hc:mkB P o=some x:=by kernel_rfl):Does P o ρ w K:=by
 unfold mkB at hc;split at hc
 ·rename_i s t' x' hop;split at hc
  ·rename_i e hst hs;obtain rfl:s=t':=by simpa using hst
   split at hc
   ·rename_i he;obtain rfl:=aof hc;have hr:(convert s s (.slice (some ⟨b,0,none⟩) n' c)).run P w = .ok (.slice (some ⟨b,0,none⟩) n' c) (w.freeze ⟨b,k,none⟩ 1):=by
     simp[convert,run_underlying hs,run_underlying he,markStringish,hsh]
    have hrun:(execOp ρ o).run P w = .ok (.value (.slice (some ⟨b,0,none⟩) n' c)) (w.freeze ⟨b,k,none⟩ 1):=by
     unfold execOp;rw[hop];simp only[hx];rw[aoV,hr];rfl
    unfold Does;rw[hrun];exact hK
   cases hc
  cases hc
 cases hc
theorem Pm.mark{B:Nat}{f:α→Value}{l:List α}{x:Nat}(h:Pm B f l (ρ (.tmp x)) w)(hc:mkB P o=some x:=by kernel_rfl)(hd:o.dst.isSome=true:=by rfl):Does P o ρ w (fun v w'=>Ml B w w'∧Pf B f l (kept o v) w'):=by
 obtain⟨h0,b,t,k,h1,h2,h3,h4⟩:=h;refine agp h1 h4 ?_ hc;obtain⟨d,hd⟩:=ao1.1 hd;have hR:Ml B w (w.freeze ⟨b,k,none⟩ 1):=VU h2;refine⟨hR,?_⟩;have hk:kept o (.slice (some ⟨b,0,none⟩) l.length l.length) = .slice (some ⟨b,0,none⟩) l.length l.length:=by unfold kept; rw[hd]
 rw[hk,←h1];exact Pf.mono _ _ _ hR h0
theorem ml{B:Nat}{T:Fact}(hB:B≤w.heap.size)(h:Does P o ρ w fun v w'=>Ext w w'∧T (kept o v) w'):Does P o ρ w fun v w'=>Ml B w w'∧T (kept o v) w':=Go.Rel.Upon.mono h fun _ _ h=>⟨Ml.of h.1 hB,h.2⟩
theorem agq(hs:Std ρ)(l:List (Nat×Value))(hl:KnL ρ l)(A:List Value)(sh:Option Nat){T:Fact}(hT:∀v w',dX w.heap.size A sh v w'→Ext w w'→T v w')
  (hx:∀r,(([o][0]?).bind fun o=>um P r [o] l).map (fun q=>(q.1,q.2.2.1,q.2.2.2.isSome))=some (A,YW sh r,true):=by intro r; kernel_rfl) (hd:o.dst.isSome=true:=by rfl):Does P o ρ w (fun v w'=>Ext w w'∧T (kept o v) w'):=
 Fb (os:=[o]) (i:=0) rfl hs l hl.look A sh (fun v w' h hE=>⟨hE,by obtain⟨d,hd⟩:=ao1.1 hd; unfold kept; rw[hd]; exact hT v w' h hE⟩) hx
theorem St.know(S:St w0 a w n l bl vs){d:Nat}{v:Value}(h:a.eval (.tmp d)=v):St w0 a w n ((d,v)::l) bl vs:=
 S.act ⟨S.s.size,S.s.defers,fun i u hi=>by
  rw[aoN]at hi
  split at hi
  ·rename_i hi2
   obtain rfl:i=d:=by simpa using hi2
   rw[←aof hi]; exact h
  ·exact S.s.has i u hi⟩
theorem aea(S:St w0 a w n l bl vs){id:Nat}(m:Nat)(Ts:List Fact)(hm:Rel.yV (Ml w.heap.size) Ts)(hob:Go.Rel.pG P os.toArray (os.take m) Ts (Ml w.heap.size) (Ext w) a.eval (os.take m) Ts)
  (next:∀a' w',Ext w w'→(∀(j:Nat) o,(os.take m)[j]?=some o→Ts.getD j top (Rel.valOf a'.eval o.dst) w')→St w0 a' w' n (l.filter fun p=>(os.take m).all fun o => !(o.dst==some p.1)) bl vs→wpList P os.toArray Q (os.drop m) a' w')
  (hmo:P.follows .mixedOrders=true:=by kernel_rfl) (hB:okB os.toArray m n=true:=by kernel_rfl):(Code.region id os.toArray true).wp P Q a w:=by
 obtain⟨hlen,hget⟩:=Go.Rel.jZ _ _ hob;refine apJ hmo (zH (R:=Ml w.heap.size) (C:=Ext w) m [] (by rw[S.s.size]; exact hB) Ts AQ (below_drewN (aor _ _) 1) (fun _ _ h k=>Below.trans h k.below) (fun T hT v w1 w2 hR h=>Rel.yV.mem hm T hT v w1 w2 hR h)
  (fun i o hi ho=>hget i o (by rw[List.getElem?_take_of_lt hi]; exact ho)) fun a' w' hE hd hs hf hout _=>?_)
 refine next a' w' hE hf ((S.grow hE).act ⟨hs.trans S.s.size,hd.trans S.s.defers,fun i v hi=>?_⟩);obtain⟨hq,hi⟩:=qj (q:=fun x=>(os.take m).all fun o => !(o.dst==some x)) hi;exact(hout i hq).trans (S.s.has i v hi)
end Go.Sx
namespace Go.Sx
open Go.Proofs.YtapmgonflgahbaaGreatDoor Go.RowKit Go.Rel
variable{P:Program}{ops:Array Oper}{Q:Exit→Act→World→Prop}{w0 w:World}{a:Act}{os:List Oper}{n:Nat}{l:List (Nat×Value)}{bl:List (Nat×List Value)}{vs:List gX}
theorem ais(S:St w0 a w n l bl vs)(d1 d2 m:Nat)(A:List Value)(t e:TypeId)(ht:P.underlying t=some (.slice e))(he:P.underlying e=some (.int .u8))
  (next:∀{a' w' b},w.heap.size≤b→b<w'.heap.size→Ext w w'→fK w' 1 (.slice (some ⟨b,0,none⟩) m m) m A→St w0 a' w' n ((d2,.slice (some ⟨b,0,none⟩) m m)::l) bl vs→wpList P ops Q (os.drop 2) a' w')
  (hl:(l.lookup d1).isNone=true:=by kernel_rfl) (h12:(d1==d2)=false:=by rfl)
  (hx:∀r,um P r os l=some (A,e,.slice (some ⟨r,0,none⟩) m m,some d1):=by intro r; kernel_rfl) (h2:KA os=some (t,t,d1,d2):=by kernel_rfl) (hA:A.length=m:=by rfl) (hm:m≤maxLen:=by decide) (h1:A.all (·.oneCell')=true:=by kernel_rfl)
  (hd1:Cb n (some d1)=true:=by rfl) (hd2:Cb n (some d2)=true:=by rfl):wpList P ops Q os a w:=by
 have hx:=hx w.heap.size;cases os with
 | nil=>cases h2
 | cons o os =>
 cases os with
 | nil=>cases h2
 | cons o2 os =>
  unfold um at hx;unfold KA at h2;simp only at hx h2;split at hx
  ·rename_i A' ty k' hg hav hev;split at hx
   ·rename_i v hv;simp only[an8,aob]at hx;obtain⟨rfl,rfl,rfl,hdst⟩:=hx;simp only[aoP]at hav;have hc:execOp a.eval o=execOp (yL (lift l) []) o:=by
     refine execOp_congr o (fun cs b e1=>by rw[e1]at hav; cases hav.1) fun x hx=>?_;have h2:=hav.2;simp only[ao4,apT]at h2;obtain⟨v,hv⟩:=ao1.1 (h2 x hx);rw[jd (Std.act a) (jP (dU S.s) o x hx) (p:=[]) rfl hv];simp[yL,hv]
    have hv':ev0 P k'=some (.value (.slice (some ⟨w.heap.size,0,none⟩) m m)):=by
     unfold jh at hv;split at hv
     ·rename_i h; obtain h2:=aof hv; rw[h]; simp only[ED.val.injEq]at h2; rw[h2]
     ·cases hv
     cases hv
    have hrun:(execOp a.eval o).run P w = .ok (.value (.slice (some ⟨w.heap.size,0,none⟩) m m)) (w.alloc (.cells A'.toArray ty)):=by rw[hc,nN hev,oG hv']
    split at h2
    ·rename_i d s' t' x hg2 YX hop2;simp only[an8,aob]at h2;obtain⟨rfl,rfl,rfl,rfl⟩:=h2;unfold wpList;rw[an6 (by simp[Region.wanted,hg])];left;unfold Oper.wp;rw[hrun];simp only[Oper.upon];rw[hdst];have hs1:=wP (d:=some x) S.s hd1 (.slice (some ⟨w.heap.size,0,none⟩) m m);have ex:(a.put (some x) (.slice (some ⟨w.heap.size,0,none⟩) m m)).eval (.tmp x) = .slice (some ⟨w.heap.size,0,none⟩) m m:=hs1.has x _ (by simp[Iy]);have hrun2:(execOp (a.put (some x) (.slice (some ⟨w.heap.size,0,none⟩) m m)).eval o2).run P (w.alloc (.cells A'.toArray ty)) = .ok (.value (.slice (some ⟨w.heap.size,0,none⟩) m m)) (w.alloc (.cells A'.toArray ty (A'.toArray.size,A'.toArray.size+1))):=by
      unfold execOp;rw[hop2];simp only[ex];rw[aoV,Go.Lib.run_convert_bytes_const w _ ty A'.toArray m m ht he];rfl
     unfold wpList;rw[an6 (by simp[Region.wanted,hg2])];left;unfold Oper.wp;rw[hrun2];simp only[Oper.upon];rw[YX];have hs2:=wP (d:=some d) hs1 hd2 (.slice (some ⟨w.heap.size,0,none⟩) m m);have hE:Ext w (w.alloc (.cells A'.toArray ty (A'.toArray.size,A'.toArray.size+1))):=aG _ _;refine next (an7 _) (by simp) hE (Fe hA hm h1) ((S.grow hE).act ⟨hs2.size,hs2.defers,fun i v hi=>hs2.has i v ?_⟩);simp only[Iy,aoN]at hi ⊢;by_cases hid:i=d
     ·subst hid; simpa using hi
     have e1:(i==d)=false:=by simpa using hid
     simp only[e1]at hi ⊢;by_cases hix:i=x
     ·subst hix;rw[Option.isNone_iff_eq_none.1 hl]at hi; cases hi
     have e2:(i==x)=false:=by simpa using hix
     simpa only[e2]using hi
    cases h2
   cases hx
  cases hx
end Go.Sx
