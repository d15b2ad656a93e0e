/- Reference 13: paths. -/
import Derived.Test.YtfmkkemfhjkajaaGreatDoorR36
set_option maxHeartbeats 1600000
set_option maxRecDepth 100000
namespace Go.Proofs.YtfmkkemfhjkajaaGreatDoor
open Go.RowKit
variable{α:Type}{K:Nat}
set_option linter.unusedVariables false
theorem yc{j:Nat}(h:j≤9223372036854775807):Value.int .i64 (IntKind.i64.wrap (((j+1:Nat):Int)-1)) = .int .i64 ((j:Nat):Int):=by
 have:IntKind.i64.wrap (((j+1:Nat):Int)-1)=((j:Nat):Int):=by rw[IntKind.wrap_i64]; omega
 rw[this]
theorem WM{x:dW}{j:Nat}{last:Int}(h:(((((j+1):Nat):Int)==0)||(last==5))=true):(x.verb==1)=x.stands last:=by
 have h0:((((j+1):Nat):Int)==0)=false:=by simp; omega
 rw[h0,Bool.false_or]at h
 obtain rfl:last=5:=by simpa using h
 simp[dW.stands]
theorem ZC{x:dW}{j:Nat}{last:Int}(h:(((((j+1):Nat):Int)==0)||(last==5))=false):((x.verb != 5)||(last != 1))=x.stands last:=by
 simp only[Bool.or_eq_false_iff,beq_eq_false_iff_ne,ne_eq]at h
 unfold dW.stands
 rw[Bool.eq_iff_iff]
 simp only[Bool.or_eq_true,Bool.and_eq_true,bne_iff_ne,ne_eq,beq_iff_eq]
 omega
theorem KT(v:Int)(w:World) :
  Calls Tryz.prog 235 #[.int .i64 v] w fun e w'=>e = .returned (.int .i64 (named v))∧w=w':=by
 skip
 refine aiK Tryz.func235 Tryz.ntmps235 fun ac S=>aiG fun _ aU=>adr S 1 [] [(2,.int .i64 0)] fun ac S=>aiF<|aU _ _<|wp_seq_k fun _ fE=>aiG fun _ gW=>adr S 1 [] [(3,.int .i64 v)] fun ac S=>aiF<|gW _ _<|wp_block<|wp_seq_k fun _ lG=>aiG fun _ bV=>adr S 2 [] [(4,.bool ((v)==1))] fun ac S=>aiF (bV _ _ ?_)
 refine aiI S (fun hc6=>?_) (fun hc6=>?_)
 ·refine wp_skip<|lG _ _ ?_
  refine aiI S (fun kV=>?_) (fun kV=>?_)
  ·refine aiG fun _ dP=>adr S 1 [] [(2,.int .i64 1)] fun ac S=>aiF<|dP _ _<|Vp.rt ?_
   have p0:=hc6
   try simp only[beq_iff_eq]at p0
   have p1:=kV
   try simp only[beq_iff_eq]at p1
   refine aiH S Tryz.results235 ?_
   exact⟨dQ (by unfold named; (repeat' split)<;>omega),rfl⟩
  ·refine aiG fun _ gB=>adr S 2 [] [(7,.bool ((v)==3))] fun ac S=>aiF (gB _ _ ?_)
   refine aiI S (fun bY=>?_) (fun bY=>?_)
   ·refine aiG fun _ dB=>adr S 1 [] [(2,.int .i64 2)] fun ac S=>aiF<|dB _ _<|Vp.rt ?_
    have p0:=hc6
    try simp only[beq_iff_eq]at p0
    have p1:=kV
    try simp only[beq_eq_false_iff_ne,ne_eq]at p1
    have p2:=bY
    try simp only[beq_iff_eq]at p2
    refine aiH S Tryz.results235 ?_
    exact⟨dQ (by unfold named; (repeat' split)<;>omega),rfl⟩
   ·refine aiG fun _ dw=>adr S 2 [] [(9,.bool ((v)==4))] fun ac S=>aiF (dw _ _ ?_)
    refine aiI S (fun hc13=>?_) (fun hc13=>?_)
    ·refine aiG fun _ fU=>adr S 1 [] [(2,.int .i64 3)] fun ac S=>aiF<|fU _ _<|Vp.rt ?_
     have p0:=hc6
     try simp only[beq_iff_eq]at p0
     have p1:=kV
     try simp only[beq_eq_false_iff_ne,ne_eq]at p1
     have p2:=bY
     try simp only[beq_eq_false_iff_ne,ne_eq]at p2
     have p3:=hc13
     try simp only[beq_iff_eq]at p3
     refine aiH S Tryz.results235 ?_
     exact⟨dQ (by unfold named; (repeat' split)<;>omega),rfl⟩
    ·refine aiG fun _ fH=>adr S 2 [] [(11,.bool ((v)==5))] fun ac S=>aiF (fH _ _ ?_)
     refine aiI S (fun hc16=>?_) (fun hc16=>?_)
     ·refine aiG fun _ ig=>adr S 1 [] [(2,.int .i64 0)] fun ac S=>aiF<|ig _ _<|Vp.rt ?_
      have p0:=hc6
      try simp only[beq_iff_eq]at p0
      have p1:=kV
      try simp only[beq_eq_false_iff_ne,ne_eq]at p1
      have p2:=bY
      try simp only[beq_eq_false_iff_ne,ne_eq]at p2
      have p3:=hc13
      try simp only[beq_eq_false_iff_ne,ne_eq]at p3
      have p4:=hc16
      try simp only[beq_iff_eq]at p4
      refine aiH S Tryz.results235 ?_
      exact⟨dQ (by unfold named; (repeat' split)<;>omega),rfl⟩
     ·refine wp_skip<|fE _ _<|aiG fun _ je=>adr S 1 [] [(2,.int .i64 (-1))] fun ac S=>aiF<|je _ _<|Vp.rt ?_
      have p0:=hc6
      try simp only[beq_iff_eq]at p0
      have p1:=kV
      try simp only[beq_eq_false_iff_ne,ne_eq]at p1
      have p2:=bY
      try simp only[beq_eq_false_iff_ne,ne_eq]at p2
      have p3:=hc13
      try simp only[beq_eq_false_iff_ne,ne_eq]at p3
      have p4:=hc16
      try simp only[beq_eq_false_iff_ne,ne_eq]at p4
      refine aiH S Tryz.results235 ?_
      exact⟨dQ (by unfold named; (repeat' split)<;>omega),rfl⟩
 ·refine Vp.region<|adr S 2 [] [(4,.bool ((v)==2))] fun ac S=>aiF (lG _ _ ?_)
  refine aiI S (fun hc19=>?_) (fun hc19=>?_)
  ·refine aiG fun _ iU=>adr S 1 [] [(2,.int .i64 1)] fun ac S=>aiF<|iU _ _<|Vp.rt ?_
   have p0:=hc6
   try simp only[beq_eq_false_iff_ne,ne_eq]at p0
   have p1:=hc19
   try simp only[beq_iff_eq]at p1
   refine aiH S Tryz.results235 ?_
   exact⟨dQ (by unfold named; (repeat' split)<;>omega),rfl⟩
  ·refine aiG fun _ jo=>adr S 2 [] [(7,.bool ((v)==3))] fun ac S=>aiF (jo _ _ ?_)
   refine aiI S (fun hc22=>?_) (fun hc22=>?_)
   ·refine aiG fun _ oJ=>adr S 1 [] [(2,.int .i64 2)] fun ac S=>aiF<|oJ _ _<|Vp.rt ?_
    have p0:=hc6
    try simp only[beq_eq_false_iff_ne,ne_eq]at p0
    have p1:=hc19
    try simp only[beq_eq_false_iff_ne,ne_eq]at p1
    have p2:=hc22
    try simp only[beq_iff_eq]at p2
    refine aiH S Tryz.results235 ?_
    exact⟨dQ (by unfold named; (repeat' split)<;>omega),rfl⟩
   ·refine aiG fun _ kK=>adr S 2 [] [(9,.bool ((v)==4))] fun ac S=>aiF (kK _ _ ?_)
    refine aiI S (fun hc25=>?_) (fun hc25=>?_)
    ·refine aiG fun _ kH=>adr S 1 [] [(2,.int .i64 3)] fun ac S=>aiF<|kH _ _<|Vp.rt ?_
     have p0:=hc6
     try simp only[beq_eq_false_iff_ne,ne_eq]at p0
     have p1:=hc19
     try simp only[beq_eq_false_iff_ne,ne_eq]at p1
     have p2:=hc22
     try simp only[beq_eq_false_iff_ne,ne_eq]at p2
     have p3:=hc25
     try simp only[beq_iff_eq]at p3
     refine aiH S Tryz.results235 ?_
     exact⟨dQ (by unfold named; (repeat' split)<;>omega),rfl⟩
    ·refine aiG fun _ lJ=>adr S 2 [] [(11,.bool ((v)==5))] fun ac S=>aiF (lJ _ _ ?_)
     refine aiI S (fun hc28=>?_) (fun hc28=>?_)
     ·refine aiG fun _ qm=>adr S 1 [] [(2,.int .i64 0)] fun ac S=>aiF<|qm _ _<|Vp.rt ?_
      have p0:=hc6
      try simp only[beq_eq_false_iff_ne,ne_eq]at p0
      have p1:=hc19
      try simp only[beq_eq_false_iff_ne,ne_eq]at p1
      have p2:=hc22
      try simp only[beq_eq_false_iff_ne,ne_eq]at p2
      have p3:=hc25
      try simp only[beq_eq_false_iff_ne,ne_eq]at p3
      have p4:=hc28
      try simp only[beq_iff_eq]at p4
      refine aiH S Tryz.results235 ?_
      exact⟨dQ (by unfold named; (repeat' split)<;>omega),rfl⟩
     ·refine wp_skip<|fE _ _<|aiG fun _ nI=>adr S 1 [] [(2,.int .i64 (-1))] fun ac S=>aiF<|nI _ _<|Vp.rt ?_
      have p0:=hc6
      try simp only[beq_eq_false_iff_ne,ne_eq]at p0
      have p1:=hc19
      try simp only[beq_eq_false_iff_ne,ne_eq]at p1
      have p2:=hc22
      try simp only[beq_eq_false_iff_ne,ne_eq]at p2
      have p3:=hc25
      try simp only[beq_eq_false_iff_ne,ne_eq]at p3
      have p4:=hc28
      try simp only[beq_eq_false_iff_ne,ne_eq]at p4
      refine aiH S Tryz.results235 ?_
      exact⟨dQ (by unfold named; (repeat' split)<;>omega),rfl⟩
theorem KU(s:dW)(w:World) :
  Calls Tryz.prog 237 #[.agg s.cells.toArray] w fun e w'=>e = .returned (.agg #[.int .i64 s.a.x,.int .i64 s.a.y,.int .i64 s.b.x,.int .i64 s.b.y,.int .i64 s.c.x,.int .i64 s.c.y])∧Ext w w':=by
 skip
 refine aiK Tryz.func237 Tryz.ntmps237 fun ac S=>aiG fun _ aU=>aiJ S 1 s.cells fun ac u b2 E3 hb4 S=>aiJ S 2 [.int .i64 0,.int .i64 0,.int .i64 0,.int .i64 0,.int .i64 0,.int .i64 0] fun ac u b5 E6 hb7 S=>aiF<|aU _ _<|aiG fun _ dP=>adr S 7 [.mem 1 1,.mem 1 3,.mem 1 5] [(9,.agg #[.int .i64 s.a.x,.int .i64 s.a.y,.int .i64 s.b.x,.int .i64 s.b.y,.int .i64 s.c.x,.int .i64 s.c.y])] fun ac S=>aiL S 0 (off:=0) (cs:=[.int .i64 s.a.x,.int .i64 s.a.y,.int .i64 s.b.x,.int .i64 s.b.y,.int .i64 s.c.x,.int .i64 s.c.y]) rfl fun u C9 S=>aiF<|dP _ _<|Vp.rt ?_
 refine aiS S 0 Tryz.results237 rfl (v := .agg #[.int .i64 s.a.x,.int .i64 s.a.y,.int .i64 s.b.x,.int .i64 s.b.y,.int .i64 s.c.x,.int .i64 s.c.y]) ?_
 exact⟨rfl,S.E⟩
theorem GN{w:World}{v:Value}{l:List dW}(h:nP w v l)(hi:0<l.length) :
  Calls Tryz.prog 236 #[v,.int .i64 0] w fun e w'=>e = .returned (.bool (l[0].stands 5))∧Ext w w':=by
 obtain⟨a,cap,rfl⟩:=h.1.shape
 have hmax:l.length≤9223372036854775807:=h.1.len
 refine aiK Tryz.func236 Tryz.ntmps236 fun ac S=>aiG fun _ aU=>adr S 1 [] [(4,.bool false)] fun ac S=>aiF<|aU _ _<|wp_seq_k fun _ fE=>aiG fun _ gW=>adr S 11 [.dead 8 (.bool false),.dead 9 (.bool false),.dead 10 (.bool false),.dead 11 (.bool false),.dead 12 (.bool false),.dead 13 (.bool false),.dead 14 (.bool false)] [(15,.bool true)] fun ac S=>aiF<|gW _ _<|aiN S<|aiG (fun _ lG=>?_)
 have afh:0<l.length:=(by omega)
 obtain⟨b5,o6,c7,hv,PL,hr8⟩:=Vp.aF h.1 (fun _=>rfl) (0) afh
 simp only[Value.slice.injEq,true_and]at hv
 obtain⟨rfl,rfl⟩:=hv
 obtain⟨x11,hx9⟩:∃z,l[0]=z:=⟨_,rfl⟩
 rw[hx9]at hr8
 have S:=S.view0 PL hr8
 refine adr S 7 [.idx 0 l.length,.mem 0 0] [(4,.bool ((x11.verb)==1))] (hk:=⟨afh,trivial⟩) fun ac S=>aiF<|lG _ _<|Vp.rt ?_
 refine aiH S Tryz.results236 ?_
 exact⟨aB (by rw[hx9]; simp[dW.stands]),S.E⟩
theorem GR{w:World}{v:Value}{l:List dW}{j:Nat}(h:nP w v l)(hi:j+1<l.length) :
  Calls Tryz.prog 236 #[v,.int .i64 ((j+1:Nat):Int)] w fun e w'=>e = .returned (.bool (l[j+1].stands l[j].verb))∧Ext w w':=by
 obtain⟨a,cap,rfl⟩:=h.1.shape
 have hmax:l.length≤9223372036854775807:=h.1.len
 refine aiK Tryz.func236 Tryz.ntmps236 fun ac S=>aiG fun _ aU=>adr S 1 [] [(4,.bool false)] fun ac S=>aiF<|aU _ _<|wp_seq_k fun _ fE=>aiG (fun _ gW=>?_)
 have lt9:j<l.length:=(by omega)
 obtain⟨b4,o5,c6,hv,LJ,hr7⟩:=Vp.aF h.1 (fun _=>rfl) (j) lt9
 simp only[Value.slice.injEq,true_and]at hv
 obtain⟨rfl,rfl⟩:=hv
 obtain⟨x10,QO⟩:∃z,l[j]=z:=⟨_,rfl⟩
 rw[QO]at hr7
 have S:=S.view0 LJ hr7
 refine adr S 11 [.re 10 (.int .i64 (IntKind.i64.wrap (((j+1:Nat):Int)-1))) (.int .i64 ((j:Nat):Int)),.idx j l.length,.mem 0 0] [(15,.bool ((((((j+1):Nat):Int))==0)||((x10.verb)==5)))] (hk:=⟨yc (by omega),lt9,trivial⟩) fun ac S=>aiF (gW _ _ ?_)
 refine aiI S (fun hc12=>?_) (fun hc12=>?_)
 ·refine aiG (fun _ fZ=>?_)
  have kF:(j+1)<l.length:=(by omega)
  obtain⟨b14,S9,c16,hv,yX,um⟩:=Vp.aF h.1 (fun _=>rfl) ((j+1)) kF
  simp only[Value.slice.injEq,Option.some.injEq,Addr.mk.injEq,true_and,and_true]at hv
  obtain⟨⟨rfl,rfl⟩,rfl⟩:=hv
  obtain⟨x20,lX⟩:∃z,l[(j+1)]=z:=⟨_,rfl⟩
  rw[lX]at um
  have S:=S.view0 yX um
  refine adr S 7 [.idx (j+1) l.length,.mem 0 0] [(4,.bool ((x20.verb)==1))] (hk:=⟨kF,trivial⟩) fun ac S=>aiF<|fZ _ _<|Vp.rt ?_
  have p0:=hc12
  refine aiH S Tryz.results236 ?_
  exact⟨aB (by rw[lX,QO]; exact WM p0),S.E⟩
 ·refine wp_skip<|fE _ _<|aiG (fun _ jM=>?_)
  have rX:(j+1)<l.length:=(by omega)
  obtain⟨b23,o24,c25,hv,JZ,Ai⟩:=Vp.aF h.1 (fun _=>rfl) ((j+1)) rX
  simp only[Value.slice.injEq,Option.some.injEq,Addr.mk.injEq,true_and,and_true]at hv
  obtain⟨⟨rfl,rfl⟩,rfl⟩:=hv
  obtain⟨x29,hx27⟩:∃z,l[(j+1)]=z:=⟨_,rfl⟩
  rw[hx27]at Ai
  have S:=S.view0 JZ Ai
  refine adr S 16 [.idx (j+1) l.length,.mem 0 0,.re 31 (.int .i64 (IntKind.i64.wrap (((j+1:Nat):Int)-1))) (.int .i64 ((j:Nat):Int)),.idx j l.length,.mem 1 0] [(4,.bool (((x29.verb) != 5)||((x10.verb) != 1)))] (hk:=⟨rX,yc (by omega),lt9,trivial⟩) fun ac S=>aiF<|jM _ _<|Vp.rt ?_
  have p0:=hc12
  refine aiH S Tryz.results236 ?_
  exact⟨aB (by rw[hx27,QO]; exact ZC p0),S.E⟩
def pY(l:List dW):Nat→Int
 | 0=>5
 | j+1=>match l[j]? with | some s=>s.verb | none=>5
theorem GU{l:List dW}{j:Nat}(h:j<l.length):pY l (j+1)=l[j].verb:=by simp[pY,h]
theorem Ir{w:World}{v:Value}{l:List dW}{i:Nat}(h:nP w v l)(hi:i<l.length) :
  Calls Tryz.prog 236 #[v,.int .i64 ((i:Nat):Int)] w fun e w'=>e = .returned (.bool (l[i].stands (pY l i)))∧Ext w w':=by
 cases i with
 | zero=>exact GN h hi
 | succ j=>rw[GU (by omega)]; exact GR h hi
theorem Kw(p:kE):oG p.x p.y=p.valid:=by
 unfold oG kE.valid cok
 simp only[Bool.and_assoc]
theorem Ba{v j:Int}{p:kE}:(((decide (j<named v))&&(!(oG p.x p.y)))||((decide (named v≤j))&&(!((p.x==0)&&(p.y==0))))) = !(kR v j p):=by
 rw[Kw]
 have hz:((p.x==0)&&(p.y==0))=true→p.valid=true:=by
  intro h
  simp only[Bool.and_eq_true,beq_iff_eq]at h
  unfold kE.valid cok
  rw[h.1,h.2]; rfl
 unfold kR kE.zero
 by_cases hn:named v≤j
 ·rw[decide_eq_false (p:=j<named v) (by omega),decide_eq_true hn]
  cases hzz:((p.x==0)&&(p.y==0))
  ·simp
  ·simp[hz hzz]
 ·rw[decide_eq_true (p:=j<named v) (by omega),decide_eq_false hn]
  simp
theorem KW{w:World}{v:Value}{l:List dW}{i:Nat}(h:nP w v l)(hi:i<l.length) :
  Calls Tryz.prog 208 #[v,.int .i64 ((i:Nat):Int)] w fun e w'=>e = .returned (.int .i64 (l[i].err (pY l i)))∧Ext w w':=by
 obtain⟨a,cap,rfl⟩:=h.1.shape
 have hmax:l.length≤9223372036854775807:=h.1.len
 refine aiK Tryz.func208 Tryz.ntmps208 fun ac S=>aiG fun _ aU=>adr S 1 [] [(4,.int .i64 0)] fun ac S=>aiF<|aU _ _<|aiG (fun _ fE=>?_)
 have lt8:i<l.length:=hi
 obtain⟨b3,o4,c5,hv,yC,hr6⟩:=Vp.aF h.1 (fun _=>rfl) (i) lt8
 simp only[Value.slice.injEq,true_and]at hv
 obtain⟨rfl,rfl⟩:=hv
 obtain⟨x9,hx7⟩:∃z,l[i]=z:=⟨_,rfl⟩
 rw[hx7]at hr6
 have S:=S.view0 yC hr6
 refine adr S 5 [.idx i l.length,.mem 0 0] [(12,.int .i64 x9.verb)] (hk:=⟨lt8,trivial⟩) fun ac S=>ai1 S 13 (KT (x9.verb) _) fun ac S=>adr S 1 [] [(5,.int .i64 (named x9.verb))] fun ac S=>aiF<|fE _ _<|wp_seq_k fun _ dB=>aiG fun _ dw=>adr S 2 [] [(15,.bool (decide ((named x9.verb)<0)))] fun ac S=>aiF (dw _ _ ?_)
 refine aiI S (fun hc13=>?_) (fun hc13=>?_)
 ·refine aiG fun _ fU=>adr S 1 [] [(4,.int .i64 2)] fun ac S=>aiF<|fU _ _<|Vp.rt ?_
  have q0:=hc13
  refine aiH S Tryz.results208 ?_
  exact⟨dQ (by rw[hx7]; exact(NR q0).symm),S.E⟩
 ·refine wp_skip<|dB _ _<|wp_seq_k fun _ fH=>aiG fun _ iR=>adr S 2 [] [(16,.slice (some ⟨b3,o4,none⟩) l.length cap),(17,.int .i64 ((i:Nat):Int))] fun ac S=>aiM S 18 (Ir (h.below S.E) hi) fun ac u LZ S=>adr S 1 [] [(19,.bool (!(l[i].stands (pY l i))))] fun ac S=>aiF (iR _ _ ?_)
  refine aiI S (fun hc18=>?_) (fun hc18=>?_)
  ·refine aiG fun _ jf=>adr S 1 [] [(4,.int .i64 10)] fun ac S=>aiF<|jf _ _<|Vp.rt ?_
   have q0:=hc13
   have q1:(!x9.stands (pY l i))=true:=by rw[←hx7]; exact hc18
   refine aiH S Tryz.results208 ?_
   exact⟨dQ (by rw[hx7]; exact(Jb q0 q1).symm),S.E⟩
  ·refine wp_skip<|fH _ _<|aiG fun _ iU=>adr S 4 [.idx i l.length,.mem 0 0] [(23,.agg x9.cells.toArray)] (hk:=⟨lt8,trivial⟩) fun ac S=>aiM S 24 (KU x9 _) fun ac u LD S=>aiJ S 6 [.int .i64 0,.int .i64 0,.int .i64 0,.int .i64 0,.int .i64 0,.int .i64 0] fun ac u b22 JA Qx S=>aiL S 0 (off:=0) (cs:=[.int .i64 x9.a.x,.int .i64 x9.a.y,.int .i64 x9.b.x,.int .i64 x9.b.y,.int .i64 x9.c.x,.int .i64 x9.c.y]) rfl fun u C25 S=>aiF<|iU _ _<|wp_seq_k fun _ kH=>aiG fun _ lJ=>adr S 1 [] [(7,.int .i64 0)] fun ac S=>aiF<|lJ _ _<|wp_block<|wp_loop_rounds 4 ?_
   rw[rounds_succ]
   refine wp_seq_k fun _ lK=>aiG fun _ qm=>adr S 2 [] [(26,.bool true)] fun ac S=>aiF<|qm _ _<|aiN S<|wp_skip<|lK _ _<|wp_seq_k fun _ nI=>wp_block<|aiG fun _ qg=>aiT S 22 [.mem 0 0,.mem 0 0,.cmp .neq 60 (.tmp 46) (.tmp 47) (.agg #[.int .i64 x9.a.x,.int .i64 x9.a.y]) (.agg #[.int .i64 0,.int .i64 0]) (.bool (!((x9.a.x==0)&&(x9.a.y==0))))] [(_,_,(decide (0<(named x9.verb))),.bool (oG x9.a.x x9.a.y))] [(50,.bool (((decide (0<(named x9.verb)))&&(!(oG x9.a.x x9.a.y)))||((decide ((named x9.verb)≤0))&&(!((x9.a.x==0)&&(x9.a.y==0))))))] ⟨fun u hC g=>lu x9.a.x x9.a.y _,trivial⟩ (hk:=⟨aiX (fun _=>V6 ..) (by kernel_rfl),trivial⟩) fun ac u E32 S=>aiF (qg _ _ ?_)
   refine aiI S (fun nU=>?_) (fun nU=>?_)
   ·refine aiG fun _ uQ=>adr S 1 [] [(4,.int .i64 6)] fun ac S=>aiF<|uQ _ _<|Vp.rt ?_
    have q0:=hc13
    have q1:(!x9.stands (pY l i))=false:=by rw[←hx7]; exact hc18
    have g0:kR x9.verb 0 x9.a=false:=by have hh:=nU; rw[Ba]at hh; simpa using hh
    have q2:(!x9.fits)=true:=by simp[dW.fits,g0]
    refine aiH S Tryz.results208 ?_
    exact⟨dQ (by rw[hx7]; exact(Aw q0 q1 q2).symm),S.E⟩
   ·refine wp_skip<|nI _ _<|Vp.region<|adr S 3 [] [(7,.int .i64 1)] fun ac S=>aiF ?_
    show Code.rounds _ _ _ 3 _ _
    rw[rounds_succ]
    refine wp_seq_k fun _ oK=>aiG fun _ nJ=>adr S 2 [] [(26,.bool true)] fun ac S=>aiF<|nJ _ _<|aiN S<|wp_skip<|oK _ _<|wp_seq_k fun _ qo=>wp_block<|aiG fun _ jG=>aiT S 22 [.mem 0 2,.mem 0 2,.cmp .neq 60 (.tmp 46) (.tmp 47) (.agg #[.int .i64 x9.b.x,.int .i64 x9.b.y]) (.agg #[.int .i64 0,.int .i64 0]) (.bool (!((x9.b.x==0)&&(x9.b.y==0))))] [(_,_,(decide (1<(named x9.verb))),.bool (oG x9.b.x x9.b.y))] [(50,.bool (((decide (1<(named x9.verb)))&&(!(oG x9.b.x x9.b.y)))||((decide ((named x9.verb)≤1))&&(!((x9.b.x==0)&&(x9.b.y==0))))))] ⟨fun u hC g=>lu x9.b.x x9.b.y _,trivial⟩ (hk:=⟨aiX (fun _=>V6 ..) (by kernel_rfl),trivial⟩) fun ac u E39 S=>aiF (jG _ _ ?_)
    refine aiI S (fun uI=>?_) (fun uI=>?_)
    ·refine aiG fun _ qW=>adr S 1 [] [(4,.int .i64 6)] fun ac S=>aiF<|qW _ _<|Vp.rt ?_
     have q0:=hc13
     have q1:(!x9.stands (pY l i))=false:=by rw[←hx7]; exact hc18
     have g0:kR x9.verb 0 x9.a=true:=by have hh:=nU; rw[Ba]at hh; simpa using hh
     have g1:kR x9.verb 1 x9.b=false:=by have hh:=uI; rw[Ba]at hh; simpa using hh
     have q2:(!x9.fits)=true:=by simp[dW.fits,g0,g1]
     refine aiH S Tryz.results208 ?_
     exact⟨dQ (by rw[hx7]; exact(Aw q0 q1 q2).symm),S.E⟩
    ·refine wp_skip<|qo _ _<|Vp.region<|adr S 3 [] [(7,.int .i64 2)] fun ac S=>aiF ?_
     show Code.rounds _ _ _ 2 _ _
     rw[rounds_succ]
     refine wp_seq_k fun _ qX=>aiG fun _ tH=>adr S 2 [] [(26,.bool true)] fun ac S=>aiF<|tH _ _<|aiN S<|wp_skip<|qX _ _<|wp_seq_k fun _ wE=>wp_block<|aiG fun _ Bv=>aiT S 22 [.mem 0 4,.mem 0 4,.cmp .neq 60 (.tmp 46) (.tmp 47) (.agg #[.int .i64 x9.c.x,.int .i64 x9.c.y]) (.agg #[.int .i64 0,.int .i64 0]) (.bool (!((x9.c.x==0)&&(x9.c.y==0))))] [(_,_,(decide (2<(named x9.verb))),.bool (oG x9.c.x x9.c.y))] [(50,.bool (((decide (2<(named x9.verb)))&&(!(oG x9.c.x x9.c.y)))||((decide ((named x9.verb)≤2))&&(!((x9.c.x==0)&&(x9.c.y==0))))))] ⟨fun u hC g=>lu x9.c.x x9.c.y _,trivial⟩ (hk:=⟨aiX (fun _=>V6 ..) (by kernel_rfl),trivial⟩) fun ac u E46 S=>aiF (Bv _ _ ?_)
     refine aiI S (fun hc47=>?_) (fun hc47=>?_)
     ·refine aiG fun _ yx=>adr S 1 [] [(4,.int .i64 6)] fun ac S=>aiF<|yx _ _<|Vp.rt ?_
      have q0:=hc13
      have q1:(!x9.stands (pY l i))=false:=by rw[←hx7]; exact hc18
      have g0:kR x9.verb 0 x9.a=true:=by have hh:=nU; rw[Ba]at hh; simpa using hh
      have g1:kR x9.verb 1 x9.b=true:=by have hh:=uI; rw[Ba]at hh; simpa using hh
      have g2:kR x9.verb 2 x9.c=false:=by have hh:=hc47; rw[Ba]at hh; simpa using hh
      have q2:(!x9.fits)=true:=by simp[dW.fits,g0,g1,g2]
      refine aiH S Tryz.results208 ?_
      exact⟨dQ (by rw[hx7]; exact(Aw q0 q1 q2).symm),S.E⟩
     ·refine wp_skip<|wE _ _<|Vp.region<|adr S 3 [] [(7,.int .i64 3)] fun ac S=>aiF ?_
      show Code.rounds _ _ _ 1 _ _
      rw[rounds_succ]
      refine wp_seq_k fun _ yA=>aiG fun _ zW=>adr S 2 [] [(26,.bool false)] fun ac S=>aiF<|zW _ _<|aiY S<|wp_exit<|kH _ _<|aiG fun _ JJ=>adr S 1 [] [(4,.int .i64 0)] fun ac S=>aiF<|JJ _ _<|Vp.rt ?_
      have q0:=hc13
      have q1:(!x9.stands (pY l i))=false:=by rw[←hx7]; exact hc18
      have g0:kR x9.verb 0 x9.a=true:=by have hh:=nU; rw[Ba]at hh; simpa using hh
      have g1:kR x9.verb 1 x9.b=true:=by have hh:=uI; rw[Ba]at hh; simpa using hh
      have g2:kR x9.verb 2 x9.c=true:=by have hh:=hc47; rw[Ba]at hh; simpa using hh
      have q2:(!x9.fits)=false:=by simp[dW.fits,g0,g1,g2]
      refine aiH S Tryz.results208 ?_
      exact⟨dQ (by rw[hx7]; exact(NS q0 q1 q2).symm),S.E⟩
theorem KX{w:World}{v:Value}{l:List dW}(h:nP w v l) :
  Calls Tryz.prog 170 #[v] w fun e w'=>e = .returned (.tuple #[.int .i64 (dF l).1,.int .i64 (dF l).2])∧Ext w w':=by
 obtain⟨a,cap,rfl⟩:=h.1.shape
 have hmax:l.length≤9223372036854775807:=h.1.len
 refine aiK Tryz.func170 Tryz.ntmps170 fun ac S=>aiG fun _ aU=>adr S 2 [] [(2,.int .i64 0),(3,.int .i64 0)] fun ac S=>aiF<|aU _ _<|wp_seq_k fun _ fE=>aiG fun _ gW=>adr S 3 [] [(8,.bool (decide (256<((l.length:Nat):Int))))] fun ac S=>aiF (gW _ _ ?_)
 refine aiI S (fun hc4=>?_) (fun hc4=>?_)
 ·refine aiG fun _ bV=>adr S 2 [] [(2,.int .i64 5),(3,.int .i64 256)] fun ac S=>aiF<|bV _ _<|Vp.rt ?_
  have p0:256<(l.length:Int):=of_decide_eq_true hc4
  refine Sx.vM S Tryz.results170 ?_
  have e:dF l=(5,256):=by unfold dF; rw[if_pos p0]
  exact⟨by rw[e],S.E⟩
 ·refine wp_skip<|fE _ _<|wp_seq_k fun _ iK=>aiG fun _ kC=>adr S 1 [] [(4,.int .i64 0)] fun ac S=>aiF<|kC _ _<|wp_block ?_
  refine Vp.loop (ι:=Nat) (fun p a' w'=>p≤l.length∧(lS 5 0 l=lS (pY l p) (p:Int) (l.drop p))∧Sx.St w a' w' 22 [(0,.slice a l.length cap),(2,.int .i64 0),(3,.int .i64 0),(4,.int .i64 ((p:Nat):Int))] [] []) (fun p=>l.length-p) (0) ⟨Nat.zero_le _,rfl,(S.sub [(0,.slice a l.length cap),(2,.int .i64 0),(3,.int .i64 0),(4,.int .i64 ((0:Nat):Int))]).aK⟩ ?_
  rintro k ac u hI
  try dsimp only at hI
  obtain⟨hk,hR,S⟩:=hI
  refine wp_seq_k fun _ dP=>aiG fun _ gB=>adr S 4 [] [(12,.bool (decide (((k:Nat):Int)<((l.length:Nat):Int))))] fun ac S=>aiF (gB _ _ ?_)
  refine aiI S (fun bY=>?_) (fun bY=>?_)
  ·refine wp_skip<|dP _ _<|wp_seq_k fun _ dB=>wp_block<|aiG fun _ dw=>adr S 2 [] [(15,.slice a l.length cap),(16,.int .i64 ((k:Nat):Int))] (fun ac S=>?_)
   have hlt:k<l.length:=by have:=of_decide_eq_true bY; omega
   refine aiM S 17 (KW (h.below S.E) hlt) fun ac u H7 S=>adr S 1 [] [(5,.int .i64 (l[k].err (pY l k)))] fun ac S=>aiF<|dw _ _<|aiG fun _ fU=>adr S 2 [] [(19,.bool (((l[k].err (pY l k))) != 0))] fun ac S=>aiF (fU _ _ ?_)
   refine aiI S (fun oD=>?_) (fun oD=>?_)
   ·refine aiG fun _ iR=>adr S 4 [] [(2,.int .i64 (l[k].err (pY l k))),(3,.int .i64 ((k:Nat):Int))] fun ac S=>aiF<|iR _ _<|Vp.rt ?_
    have p0:¬256<(l.length:Int):=of_decide_eq_false hc4
    have herr:¬(l[k].err (pY l k)=0):=by simpa using oD
    refine Sx.vM S Tryz.results170 ?_
    have e:dF l=(l[k].err (pY l k),(k:Int)):=by
     unfold dF
     rw[if_neg (by omega),hR,List.drop_eq_getElem_cons hlt,lS,if_neg herr]
    exact⟨by rw[e],S.E⟩
   ·refine wp_skip<|dB _ _<|Vp.region<|adr S 3 [.re 14 (.int .i64 (IntKind.i64.wrap (((k:Nat):Int)+1))) (.int .i64 (((k+1):Nat):Int))] [(4,.int .i64 (((k+1):Nat):Int))] (hk:=⟨aiR (by omega),trivial⟩) fun ac S=>aiF ?_
    show ∃i',_∧_
    have herr:l[k].err (pY l k)=0:=by simpa using oD
    rw[List.drop_eq_getElem_cons hlt,lS,if_pos herr,←GU hlt]at hR
    exact⟨(k+1),⟨by omega,hR,(S.sub [(0,.slice a l.length cap),(2,.int .i64 0),(3,.int .i64 0),(4,.int .i64 (((k+1):Nat):Int))]).aK⟩,by show _-_<_-_; omega⟩
  ·refine wp_exit<|iK _ _<|aiG fun _ ig=>adr S 2 [] [(2,.int .i64 0),(3,.int .i64 0)] fun ac S=>aiF<|ig _ _<|Vp.rt ?_
   have p0:¬256<(l.length:Int):=of_decide_eq_false hc4
   have p1:¬(k:Int)<(l.length:Int):=of_decide_eq_false bY
   refine Sx.vM S Tryz.results170 ?_
   have e:dF l=(0,0):=by
    unfold dF
    rw[if_neg (by omega),hR,List.drop_eq_nil_of_le (by omega)]
    rfl
   exact⟨by rw[e],S.E⟩
theorem AL{w:World}{v:Value}{l:List dW}(h:nP w v l) :
  Calls Tryz.prog 130 #[v] w fun e w'=>e = .returned (.bool (iW l))∧Ext w w':=by
 skip
 refine aiK Tryz.func130 Tryz.ntmps130 fun ac S=>aiG fun _ aU=>adr S 1 [] [(2,.bool false)] fun ac S=>aiF<|aU _ _<|aiG fun _ fE=>adr S 1 [] [(6,v)] fun ac S=>aiM S 7 (KX (h.below S.E)) fun ac u E3 S=>adr S 5 [] [(3,.int .i64 ((dF l).1))] fun ac S=>aiF<|fE _ _<|aiG fun _ lG=>adr S 3 [] [(2,.bool (((dF l).1)==0))] fun ac S=>aiF<|lG _ _<|Vp.rt ?_
 refine aiH S Tryz.results130 ?_
 exact⟨rfl,S.E⟩
def lI(l:List fK):Nat→Int
 | 0=>0
 | j+1=>match l[j]? with | some s=>s.o | none=>0
theorem zL{l:List fK}{j:Nat}(h:j<l.length):lI l (j+1)=l[j].o:=by simp[lI,h]
theorem OV{l:List fK}{k:Nat}(hk:k<l.length)(hR:bZ 0 l=bZ (lI l k) (l.drop k)∧0≤lI l k)(hb:¬(l[k].o<lI l k∨65536<l[k].o)):bZ 0 l=bZ (lI l (k+1)) (l.drop (k+1))∧0≤lI l (k+1):=by
 obtain⟨h1,h2⟩:=hR
 rw[zL hk]
 refine⟨?_,by omega⟩
 rw[h1,List.drop_eq_getElem_cons hk,bZ,decide_eq_true (p:=lI l k≤l[k].o) (by omega),decide_eq_true (p:=l[k].o≤65536) (by omega)]; rfl
theorem Ut{l:List fK}{k:Nat}(hk:k<l.length)(hR:bZ 0 l=bZ (lI l k) (l.drop k)∧0≤lI l k)(hb:l[k].o<lI l k∨65536<l[k].o):false=dY l:=by
 unfold dY
 rw[hR.1,List.drop_eq_getElem_cons hk,bZ]
 rcases hb with hb | hb
 ·rw[decide_eq_false (p:=lI l k≤l[k].o) (by omega)]; simp
 ·rw[decide_eq_false (p:=l[k].o≤65536) (by omega)]; simp
theorem abp{l:List fK}{k:Nat}(hk:l.length≤k)(hR:bZ 0 l=bZ (lI l k) (l.drop k)∧0≤lI l k):((decide (1≤((l.length:Nat):Int)))&&(decide (((l.length:Nat):Int)≤16)))=dY l:=by
 unfold dY
 rw[hR.1,List.drop_eq_nil_of_le hk,bZ,Bool.eq_iff_iff]
 simp only[Bool.and_eq_true,decide_eq_true_eq,and_true]
 omega
theorem AA{w:World}{v:Value}{l:List fK}(h:aT 5 fK.cells w v l) :
  Calls Tryz.prog 257 #[v] w fun e w'=>e = .returned (.bool (dY l))∧Ext w w':=by
 obtain⟨a,cap,rfl⟩:=h.shape
 have hmax:l.length≤9223372036854775807:=h.len
 refine aiK Tryz.func257 Tryz.ntmps257 fun ac S=>aiG fun _ aU=>adr S 1 [] [(2,.bool false)] fun ac S=>aiF<|aU _ _<|wp_seq_k fun _ fE=>aiG fun _ gW=>adr S 1 [] [(3,.int .i64 0)] fun ac S=>aiF<|gW _ _<|wp_block ?_
 refine Vp.loop (ι:=Nat) (fun p a' w'=>p≤l.length∧(bZ 0 l=bZ (lI l p) (l.drop p)∧0≤lI l p)∧Sx.St w a' w' 50 [(0,.slice a l.length cap),(2,.bool false),(3,.int .i64 ((p:Nat):Int))] [] []) (fun p=>l.length-p) (0) ⟨Nat.zero_le _,⟨rfl,Int.le_refl 0⟩,(S.sub [(0,.slice a l.length cap),(2,.bool false),(3,.int .i64 ((0:Nat):Int))]).aK⟩ ?_
 rintro k ac u hI
 try dsimp only at hI
 obtain⟨hk,hR,S⟩:=hI
 refine wp_seq_k fun _ lG=>aiG fun _ bV=>adr S 4 [] [(7,.bool (decide (((k:Nat):Int)<((l.length:Nat):Int))))] fun ac S=>aiF (bV _ _ ?_)
 refine aiI S (fun hc6=>?_) (fun hc6=>?_)
 ·refine wp_skip<|lG _ _<|wp_seq_k fun _ kC=>wp_block<|wp_seq_k (fun _ dP=>?_)
  have hlt:=of_decide_eq_true hc6
  rcases k with _ | j
  ·have nG:0<l.length:=(by omega)
   obtain⟨b10,Vt,c12,hv,Dy,wH⟩:=Vp.aF h (fun _=>rfl) (0) nG
   simp only[Value.slice.injEq,true_and]at hv
   obtain⟨rfl,rfl⟩:=hv
   obtain⟨x16,pO⟩:∃z,l[0]=z:=⟨_,rfl⟩
   rw[pO]at wH
   have S:=S.view0 Dy wH
   refine aiO S 32 [.idx 0 l.length,.mem 0 0,.idx 0 l.length,.mem 0 0,.dead 28 (.bool false),.dead 29 (.bool false),.dead 30 (.bool false),.dead 31 (.bool false),.dead 32 (.bool false),.dead 33 (.bool false),.dead 34 (.bool false),.dead 35 (.bool false),.dead 36 (.bool false),.dead 37 (.bool false),.dead 38 (.bool false),.dead 39 (.bool false)] [] [(41,.bool (((decide (x16.o<0))||(decide (65536<x16.o)))||false))] trivial (hk:=⟨nG,nG,trivial⟩) fun ac u E9 S=>aiF (dP _ _ ?_)
   refine aiI S (fun hc18=>?_) (fun hc18=>?_)
   ·refine aiG fun _ jf=>adr S 1 [] [(2,.bool false)] fun ac S=>aiF<|jf _ _<|Vp.rt ?_
    have hh:=hc18
    rw[←pO]at hh
    have hb:(l[0].o<lI l 0∨65536<l[0].o):=by
     have hl:=hR.2
     rw[show lI l 0=0 from rfl]at *
     simp at hh hl ⊢
     omega
    refine aiH S Tryz.results257 ?_
    exact⟨aB (Ut (by omega) hR hb),S.E⟩
   ·refine wp_skip<|kC _ _<|Vp.region<|adr S 3 [] [(3,.int .i64 1)] fun ac S=>aiF ?_
    show ∃i',_∧_
    have hh:=hc18
    rw[←pO]at hh
    have hb:¬(l[0].o<lI l 0∨65536<l[0].o):=by
     have hl:=hR.2
     rw[show lI l 0=0 from rfl]at *
     simp at hh hl ⊢
     omega
    exact⟨(0+1),⟨by omega,(OV (by omega) hR hb),(S.sub [(0,.slice (some ⟨b10,Vt,none⟩) l.length cap),(2,.bool false),(3,.int .i64 (((0+1):Nat):Int))]).aK⟩,by show _-_<_-_; omega⟩
  ·have Iu:(j+1)<l.length:=(by omega)
   obtain⟨b21,o22,c23,hv,adS,ZE⟩:=Vp.aF h (fun _=>rfl) ((j+1)) Iu
   simp only[Value.slice.injEq,true_and]at hv
   obtain⟨rfl,rfl⟩:=hv
   obtain⟨x27,hx25⟩:∃z,l[(j+1)]=z:=⟨_,rfl⟩
   rw[hx25]at ZE
   have S:=S.view0 adS ZE
   have OW:j<l.length:=(by omega)
   obtain⟨b29,o30,c31,hv,U2,J9⟩:=Vp.aF h (fun _=>rfl) (j) OW
   simp only[Value.slice.injEq,Option.some.injEq,Addr.mk.injEq,true_and,and_true]at hv
   obtain⟨⟨rfl,rfl⟩,rfl⟩:=hv
   obtain⟨x35,OX⟩:∃z,l[j]=z:=⟨_,rfl⟩
   rw[OX]at J9
   have S:=S.view0 U2 J9
   refine aiO S 32 [.idx (j+1) l.length,.mem 1 0,.idx (j+1) l.length,.mem 1 0,.idx (j+1) l.length,.mem 1 0,.re 35 (.int .i64 (IntKind.i64.wrap (((j+1:Nat):Int)-1))) (.int .i64 ((j:Nat):Int)),.idx j l.length,.mem 0 0] [] [(41,.bool (((decide (x27.o<0))||(decide (65536<x27.o)))||((decide (0<(((j+1):Nat):Int)))&&(decide (x27.o<x35.o)))))] trivial (hk:=⟨Iu,Iu,Iu,yc (by omega),OW,trivial⟩) fun ac u Iz S=>aiF (dP _ _ ?_)
   refine aiI S (fun l9=>?_) (fun l9=>?_)
   ·refine aiG fun _ jG=>adr S 1 [] [(2,.bool false)] fun ac S=>aiF<|jG _ _<|Vp.rt ?_
    have hh:=l9
    rw[←hx25,←OX]at hh
    have hb:(l[(j+1)].o<lI l (j+1)∨65536<l[(j+1)].o):=by
     have hl:=hR.2
     rw[zL (show j<l.length by omega)]at *
     simp at hh hl ⊢
     omega
    refine aiH S Tryz.results257 ?_
    exact⟨aB (Ut (by omega) hR hb),S.E⟩
   ·refine wp_skip<|kC _ _<|Vp.region<|adr S 3 [.re 9 (.int .i64 (IntKind.i64.wrap ((((j+1):Nat):Int)+1))) (.int .i64 ((((j+1)+1):Nat):Int))] [(3,.int .i64 ((((j+1)+1):Nat):Int))] (hk:=⟨aiR (by omega),trivial⟩) fun ac S=>aiF ?_
    show ∃i',_∧_
    have hh:=l9
    rw[←hx25,←OX]at hh
    have hb:¬(l[(j+1)].o<lI l (j+1)∨65536<l[(j+1)].o):=by
     have hl:=hR.2
     rw[zL (show j<l.length by omega)]at *
     simp at hh hl ⊢
     omega
    exact⟨((j+1)+1),⟨by omega,(OV (by omega) hR hb),(S.sub [(0,.slice (some ⟨b21,o22,none⟩) l.length cap),(2,.bool false),(3,.int .i64 ((((j+1)+1):Nat):Int))]).aK⟩,by show _-_<_-_; omega⟩
 ·refine wp_exit<|fE _ _<|aiG fun _ ug=>adr S 9 [] [(2,.bool ((decide (1≤((l.length:Nat):Int)))&&(decide (((l.length:Nat):Int)≤16))))] fun ac S=>aiF<|ug _ _<|Vp.rt ?_
  refine aiH S Tryz.results257 ?_
  exact⟨aB (abp (by have:=of_decide_eq_false hc6; omega) hR),S.E⟩
end Go.Proofs.YtfmkkemfhjkajaaGreatDoor
