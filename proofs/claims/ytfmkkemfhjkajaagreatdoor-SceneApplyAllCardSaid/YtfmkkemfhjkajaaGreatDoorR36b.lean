/- Reference 13: paths. -/
import Derived.Test.YtfmkkemfhjkajaaGreatDoorR36
set_option maxHeartbeats 1600000
set_option maxRecDepth 100000
namespace Go.Proofs.YtfmkkemfhjkajaaGreatDoor
open Go.RowKit
variable{α:Type}{K:Nat}
set_option linter.unusedVariables false
theorem yX{j:Nat}(h:j≤9223372036854775807):Value.i (IntKind.i64.wrap (((j+1:Nat):Int)-1)) = .i j:=by
 have:IntKind.i64.wrap (((j+1:Nat):Int)-1)=(j:Int):=by rw[IntKind.wrap_i64]; omega
 rw[this]
theorem Yz{x:eG}{j:Nat}{last:Int}(h:(((((j+1):Nat):Int)==0)||(last==5))=true):(x.verb==1)=x.stands last:=by
 have h0:((((j+1):Nat):Int)==0)=false:=by simp; omega
 rw[h0,Bool.false_or]at h;obtain rfl:last=5:=by simpa using h
 simp[eG.stands]
theorem abp{x:eG}{j:Nat}{last:Int}(h:(((((j+1):Nat):Int)==0)||(last==5))=false):((x.verb != 5)||(last != 1))=x.stands last:=by
 simp only[Bool.or_eq_false_iff,beq_eq_false_iff_ne,ne_eq]at h;unfold eG.stands;rw[Bool.eq_iff_iff];simp only[Bool.or_eq_true,Bool.and_eq_true,bne_iff_ne,ne_eq,beq_iff_eq];omega
theorem MK(v:Int)(w:World) :
  Calls Tryz.prog 235 #[.i v] w fun e w'=>e = .returned (.i (named v))∧w=w':=by
 skip;refine akk Tryz.func235 Tryz.ntmps235 fun ac S=>akg fun _ aP=>adr S 1 [] [(2,.i 0)] fun S=>akf<|aP _ _<|wp_seq_k fun _ fE=>akg fun _ iM=>adr S 1 [] [(3,.i v)] fun S=>akf<|iM _ _<|wp_block<|wp_seq_k fun _ lX=>akg fun _ dG=>adr S 2 [] [(4,.bool ((v)==1))] fun S=>akf (dG _ _ ?_);refine aki S (fun hc6=>?_) (fun hc6=>?_)
 ·refine wp_skip<|lX _ _ ?_;refine aki S (fun lD=>?_) (fun lD=>?_)
  ·refine akg fun _ dM=>adr S 1 [] [(2,.i 1)] fun S=>akf<|dM _ _<|Vp.rt ?_;have p0:=hc6;try simp only[beq_iff_eq]at p0
   have p1:=lD;try simp only[beq_iff_eq]at p1
   refine akm S Tryz.results235 ?_;exact⟨dX (by unfold named; (repeat' split)<;>omega),rfl⟩
  refine akg fun _ gX=>adr S 2 [] [(7,.bool ((v)==3))] fun S=>akf (gX _ _ ?_);refine aki S (fun bW=>?_) (fun bW=>?_)
  ·refine akg fun _ dn=>adr S 1 [] [(2,.i 2)] fun S=>akf<|dn _ _<|Vp.rt ?_;have p0:=hc6;try simp only[beq_iff_eq]at p0
   have p1:=lD;try simp only[beq_eq_false_iff_ne,ne_eq]at p1
   have p2:=bW;try simp only[beq_iff_eq]at p2
   refine akm S Tryz.results235 ?_;exact⟨dX (by unfold named; (repeat' split)<;>omega),rfl⟩
  refine akg fun _ bV=>adr S 2 [] [(9,.bool ((v)==4))] fun S=>akf (bV _ _ ?_);refine aki S (fun hc13=>?_) (fun hc13=>?_)
  ·refine akg fun _ fC=>adr S 1 [] [(2,.i 3)] fun S=>akf<|fC _ _<|Vp.rt ?_;have p0:=hc6;try simp only[beq_iff_eq]at p0
   have p1:=lD;try simp only[beq_eq_false_iff_ne,ne_eq]at p1
   have p2:=bW;try simp only[beq_eq_false_iff_ne,ne_eq]at p2
   have p3:=hc13;try simp only[beq_iff_eq]at p3
   refine akm S Tryz.results235 ?_;exact⟨dX (by unfold named; (repeat' split)<;>omega),rfl⟩
  refine akg fun _ fP=>adr S 2 [] [(11,.bool ((v)==5))] fun S=>akf (fP _ _ ?_);refine aki S (fun hc16=>?_) (fun hc16=>?_)
  ·refine akg fun _ gI=>adr S 1 [] [(2,.i 0)] fun S=>akf<|gI _ _<|Vp.rt ?_;have p0:=hc6;try simp only[beq_iff_eq]at p0
   have p1:=lD;try simp only[beq_eq_false_iff_ne,ne_eq]at p1
   have p2:=bW;try simp only[beq_eq_false_iff_ne,ne_eq]at p2
   have p3:=hc13;try simp only[beq_eq_false_iff_ne,ne_eq]at p3
   have p4:=hc16;try simp only[beq_iff_eq]at p4
   refine akm S Tryz.results235 ?_;exact⟨dX (by unfold named; (repeat' split)<;>omega),rfl⟩
  refine wp_skip<|fE _ _<|akg fun _ jm=>adr S 1 [] [(2,.i (-1))] fun S=>akf<|jm _ _<|Vp.rt ?_;have p0:=hc6;try simp only[beq_iff_eq]at p0
  have p1:=lD;try simp only[beq_eq_false_iff_ne,ne_eq]at p1
  have p2:=bW;try simp only[beq_eq_false_iff_ne,ne_eq]at p2
  have p3:=hc13;try simp only[beq_eq_false_iff_ne,ne_eq]at p3
  have p4:=hc16;try simp only[beq_eq_false_iff_ne,ne_eq]at p4
  refine akm S Tryz.results235 ?_;exact⟨dX (by unfold named; (repeat' split)<;>omega),rfl⟩
 refine Vp.region<|adr S 2 [] [(4,.bool ((v)==2))] fun S=>akf (lX _ _ ?_);refine aki S (fun hc19=>?_) (fun hc19=>?_)
 ·refine akg fun _ iT=>adr S 1 [] [(2,.i 1)] fun S=>akf<|iT _ _<|Vp.rt ?_;have p0:=hc6;try simp only[beq_eq_false_iff_ne,ne_eq]at p0
  have p1:=hc19;try simp only[beq_iff_eq]at p1
  refine akm S Tryz.results235 ?_;exact⟨dX (by unfold named; (repeat' split)<;>omega),rfl⟩
 refine akg fun _ jJ=>adr S 2 [] [(7,.bool ((v)==3))] fun S=>akf (jJ _ _ ?_);refine aki S (fun hc22=>?_) (fun hc22=>?_)
 ·refine akg fun _ jU=>adr S 1 [] [(2,.i 2)] fun S=>akf<|jU _ _<|Vp.rt ?_;have p0:=hc6;try simp only[beq_eq_false_iff_ne,ne_eq]at p0
  have p1:=hc19;try simp only[beq_eq_false_iff_ne,ne_eq]at p1
  have p2:=hc22;try simp only[beq_iff_eq]at p2
  refine akm S Tryz.results235 ?_;exact⟨dX (by unfold named; (repeat' split)<;>omega),rfl⟩
 refine akg fun _ jB=>adr S 2 [] [(9,.bool ((v)==4))] fun S=>akf (jB _ _ ?_);refine aki S (fun hc25=>?_) (fun hc25=>?_)
 ·refine akg fun _ kN=>adr S 1 [] [(2,.i 3)] fun S=>akf<|kN _ _<|Vp.rt ?_;have p0:=hc6;try simp only[beq_eq_false_iff_ne,ne_eq]at p0
  have p1:=hc19;try simp only[beq_eq_false_iff_ne,ne_eq]at p1
  have p2:=hc22;try simp only[beq_eq_false_iff_ne,ne_eq]at p2
  have p3:=hc25;try simp only[beq_iff_eq]at p3
  refine akm S Tryz.results235 ?_;exact⟨dX (by unfold named; (repeat' split)<;>omega),rfl⟩
 refine akg fun _ jK=>adr S 2 [] [(11,.bool ((v)==5))] fun S=>akf (jK _ _ ?_);refine aki S (fun hc28=>?_) (fun hc28=>?_)
 ·refine akg fun _ qX=>adr S 1 [] [(2,.i 0)] fun S=>akf<|qX _ _<|Vp.rt ?_;have p0:=hc6;try simp only[beq_eq_false_iff_ne,ne_eq]at p0
  have p1:=hc19;try simp only[beq_eq_false_iff_ne,ne_eq]at p1
  have p2:=hc22;try simp only[beq_eq_false_iff_ne,ne_eq]at p2
  have p3:=hc25;try simp only[beq_eq_false_iff_ne,ne_eq]at p3
  have p4:=hc28;try simp only[beq_iff_eq]at p4
  refine akm S Tryz.results235 ?_;exact⟨dX (by unfold named; (repeat' split)<;>omega),rfl⟩
 refine wp_skip<|fE _ _<|akg fun _ jM=>adr S 1 [] [(2,.i (-1))] fun S=>akf<|jM _ _<|Vp.rt ?_;have p0:=hc6;try simp only[beq_eq_false_iff_ne,ne_eq]at p0
 have p1:=hc19;try simp only[beq_eq_false_iff_ne,ne_eq]at p1
 have p2:=hc22;try simp only[beq_eq_false_iff_ne,ne_eq]at p2
 have p3:=hc25;try simp only[beq_eq_false_iff_ne,ne_eq]at p3
 have p4:=hc28;try simp only[beq_eq_false_iff_ne,ne_eq]at p4
 refine akm S Tryz.results235 ?_;exact⟨dX (by unfold named; (repeat' split)<;>omega),rfl⟩
theorem ML(s:eG)(w:World) :
  Calls Tryz.prog 237 #[.agg s.cells.toArray] w fun e w'=>e = .returned (.agg #[.i s.a.x,.i s.a.y,.i s.b.x,.i s.b.y,.i s.c.x,.i s.c.y])∧Ext w w':=by
 skip;refine akk Tryz.func237 Tryz.ntmps237 fun ac S=>akg fun _ aP=>akh S 1 s.cells fun ac u b2 E3 hb4 S=>akh S 2 [.i 0,.i 0,.i 0,.i 0,.i 0,.i 0] fun ac u b5 E6 hb7 S=>akf<|aP _ _<|akg fun _ dM=>adr S 7 [.mem 1 1,.mem 1 3,.mem 1 5] [(9,.agg #[.i s.a.x,.i s.a.y,.i s.b.x,.i s.b.y,.i s.c.x,.i s.c.y])] fun S=>akl S 0 (off:=0) (cs:=[.i s.a.x,.i s.a.y,.i s.b.x,.i s.b.y,.i s.c.x,.i s.c.y]) rfl fun u C9 S=>akf<|dM _ _<|akt S 0 Tryz.results237 rfl (v := .agg #[.i s.a.x,.i s.a.y,.i s.b.x,.i s.b.y,.i s.c.x,.i s.c.y]) ?_;exact⟨rfl,S.E⟩
theorem Iq{w:World}{v:Value}{l:List eG}(h:og w v l)(hi:0<l.length) :
  Calls Tryz.prog 236 #[v,.i 0] w fun e w'=>e = .returned (.bool (l[0].stands 5))∧Ext w w':=by
 obtain⟨a,cap,rfl⟩:=h.1.shape;have hmax:l.length≤9223372036854775807:=h.1.len;refine akk Tryz.func236 Tryz.ntmps236 fun ac S=>akg fun _ aP=>adr S 1 [] [(4,.bool false)] fun S=>akf<|aP _ _<|wp_seq_k fun _ fE=>akg fun _ iM=>adr S 11 [.dead 8 (.bool false),.dead 9 (.bool false),.dead 10 (.bool false),.dead 11 (.bool false),.dead 12 (.bool false),.dead 13 (.bool false),.dead 14 (.bool false)] [(15,.bool true)] fun S=>akf<|iM _ _<|akq S<|akg (fun _ lX=>?_);have agP:0<l.length:=(by omega);obtain⟨b5,o6,rfl,x11,hx9,QU,hr8⟩:=Vp.gY h.1 (fun _=>rfl) (0) agP;have S:=S.view0 QU hr8;refine adr S 7 [.idx 0 l.length,.mem 0 0] [(4,.bool ((x11.verb)==1))] (hk:=⟨agP,trivial⟩) fun S=>akf<|lX _ _<|akj S Tryz.results236 ?_;exact⟨aB (by rw[hx9]; simp[eG.stands]),S.E⟩
theorem Ir{w:World}{v:Value}{l:List eG}{j:Nat}(h:og w v l)(hi:j+1<l.length) :
  Calls Tryz.prog 236 #[v,.i (j+1:Nat)] w fun e w'=>e = .returned (.bool (l[j+1].stands l[j].verb))∧Ext w w':=by
 obtain⟨a,cap,rfl⟩:=h.1.shape;have hmax:l.length≤9223372036854775807:=h.1.len;refine akk Tryz.func236 Tryz.ntmps236 fun ac S=>akg fun _ aP=>adr S 1 [] [(4,.bool false)] fun S=>akf<|aP _ _<|wp_seq_k fun _ fE=>akg (fun _ iM=>?_);have lt9:j<l.length:=(by omega);obtain⟨b4,o5,rfl,x10,Xz,KW,hr7⟩:=Vp.gY h.1 (fun _=>rfl) (j) lt9;have S:=S.view0 KW hr7;refine adr S 11 [.re 10 (.i (IntKind.i64.wrap (((j+1:Nat):Int)-1))) (.i j),.idx j l.length,.mem 0 0] [(15,.bool ((((((j+1):Nat):Int))==0)||((x10.verb)==5)))] (hk:=⟨yX (by omega),lt9,trivial⟩) fun S=>akf (iM _ _ ?_);refine aki S (fun hc12=>?_) (fun hc12=>?_)
 ·refine akg (fun _ gJ=>?_);have mO:(j+1)<l.length:=(by omega);obtain⟨x20,uF,CY,FK⟩:=Vp.Ye h.1 (fun _=>rfl) ((j+1)) mO;have S:=S.view0 CY FK;refine adr S 7 [.idx (j+1) l.length,.mem 0 0] [(4,.bool ((x20.verb)==1))] (hk:=⟨mO,trivial⟩) fun S=>akf<|gJ _ _<|Vp.rt ?_;have p0:=hc12;refine akm S Tryz.results236 ?_;exact⟨aB (by rw[uF,Xz]; exact Yz p0),S.E⟩
 refine wp_skip<|fE _ _<|akg (fun _ jv=>?_);have tH:(j+1)<l.length:=(by omega);obtain⟨x29,hx27,I4,Lj⟩:=Vp.Ye h.1 (fun _=>rfl) ((j+1)) tH;have S:=S.view0 I4 Lj;refine adr S 16 [.idx (j+1) l.length,.mem 0 0,.re 31 (.i (IntKind.i64.wrap (((j+1:Nat):Int)-1))) (.i j),.idx j l.length,.mem 1 0] [(4,.bool (((x29.verb) != 5)||((x10.verb) != 1)))] (hk:=⟨tH,yX (by omega),lt9,trivial⟩) fun S=>akf<|jv _ _<|Vp.rt ?_;have p0:=hc12;refine akm S Tryz.results236 ?_;exact⟨aB (by rw[hx27,Xz]; exact abp p0),S.E⟩
def qG(l:List eG):Nat→Int
 | 0=>5
 | j+1=>match l[j]? with | some s=>s.verb | none=>5
theorem Iu{l:List eG}{j:Nat}(h:j<l.length):qG l (j+1)=l[j].verb:=by simp[qG,h]
theorem Jl{w:World}{v:Value}{l:List eG}{i:Nat}(h:og w v l)(hi:i<l.length) :
  Calls Tryz.prog 236 #[v,.i i] w fun e w'=>e = .returned (.bool (l[i].stands (qG l i)))∧Ext w w':=by
 cases i with
 | zero=>exact Iq h hi
 | succ j=>rw[Iu (by omega)]; exact Ir h hi
theorem LU(p:kU):oQ p.x p.y=p.valid:=by
 unfold oQ kU.valid cok;simp only[Bool.and_assoc]
theorem Cj{v j:Int}{p:kU}:(((decide (j<named v))&&(!(oQ p.x p.y)))||((decide (named v≤j))&&(!((p.x==0)&&(p.y==0))))) = !(lg v j p):=by
 rw[LU];have hz:((p.x==0)&&(p.y==0))=true→p.valid=true:=by
  intro h;simp only[Bool.and_eq_true,beq_iff_eq]at h;unfold kU.valid cok;rw[h.1,h.2]; rfl
 unfold lg kU.zero;by_cases hn:named v≤j
 ·rw[decide_eq_false (p:=j<named v) (by omega),decide_eq_true hn];cases hzz:((p.x==0)&&(p.y==0))
  ·simp
  simp[hz hzz]
 rw[decide_eq_true (p:=j<named v) (by omega),decide_eq_false hn];simp
theorem MN{w:World}{v:Value}{l:List eG}{i:Nat}(h:og w v l)(hi:i<l.length) :
  Calls Tryz.prog 208 #[v,.i i] w fun e w'=>e = .returned (.i (l[i].err (qG l i)))∧Ext w w':=by
 obtain⟨a,cap,rfl⟩:=h.1.shape;have hmax:l.length≤9223372036854775807:=h.1.len;refine akk Tryz.func208 Tryz.ntmps208 fun ac S=>akg fun _ aP=>adr S 1 [] [(4,.i 0)] fun S=>akf<|aP _ _<|akg (fun _ fE=>?_);have lt8:i<l.length:=hi;obtain⟨b3,o4,rfl,x9,hx7,vS,hr6⟩:=Vp.gY h.1 (fun _=>rfl) (i) lt8;have S:=S.view0 vS hr6;refine adr S 5 [.idx i l.length,.mem 0 0] [(12,.i x9.verb)] (hk:=⟨lt8,trivial⟩) fun S=>akD S 13 (MK (x9.verb) _) fun ac S=>adr S 1 [] [(5,.i (named x9.verb))] fun S=>akf<|fE _ _<|wp_seq_k fun _ dn=>akg fun _ bV=>adr S 2 [] [(15,.bool ((named x9.verb)<0))] fun S=>akf (bV _ _ ?_);refine aki S (fun hc13=>?_) (fun hc13=>?_)
 ·refine akg fun _ fC=>adr S 1 [] [(4,.i 2)] fun S=>akf<|fC _ _<|Vp.rt ?_;have q0:=hc13;refine akm S Tryz.results208 ?_;exact⟨dX (by rw[hx7]; exact(Ph q0).symm),S.E⟩
 refine wp_skip<|dn _ _<|wp_seq_k fun _ fP=>akg fun _ jH=>adr S 2 [] [(16,.slice (some ⟨b3,o4,none⟩) l.length cap),(17,.i i)] fun S=>akn S 18 (Jl (h.below S.E) hi) fun ac u Eu S=>adr S 1 [] [(19,.bool (!(l[i].stands (qG l i))))] fun S=>akf (jH _ _ ?_);refine aki S (fun hc18=>?_) (fun hc18=>?_)
 ·refine akg fun _ jI=>adr S 1 [] [(4,.i 10)] fun S=>akf<|jI _ _<|Vp.rt ?_;have q0:=hc13;have q1:(!x9.stands (qG l i))=true:=by rw[←hx7]; exact hc18
  refine akm S Tryz.results208 ?_;exact⟨dX (by rw[hx7]; exact(JK q0 q1).symm),S.E⟩
 refine wp_skip<|fP _ _<|akg fun _ iT=>adr S 4 [.idx i l.length,.mem 0 0] [(23,.agg x9.cells.toArray)] (hk:=⟨lt8,trivial⟩) fun S=>akn S 24 (ML x9 _) fun ac u zo S=>akh S 6 [.i 0,.i 0,.i 0,.i 0,.i 0,.i 0] fun ac u b22 Jt Sz S=>akl S 0 (off:=0) (cs:=[.i x9.a.x,.i x9.a.y,.i x9.b.x,.i x9.b.y,.i x9.c.x,.i x9.c.y]) rfl fun u C25 S=>akf<|iT _ _<|wp_seq_k fun _ kN=>akg fun _ jK=>adr S 1 [] [(7,.i 0)] fun S=>akf<|jK _ _<|wp_block<|wp_loop_rounds 4 ?_;rw[rounds_succ];refine wp_seq_k fun _ jh=>akg fun _ qX=>adr S 2 [] [(26,.bool true)] fun S=>akf<|qX _ _<|akq S<|wp_skip<|jh _ _<|wp_seq_k fun _ jM=>wp_block<|akg fun _ qJ=>aku S 22 [.mem 0 0,.mem 0 0,.cmp .neq 60 (.tmp 46) (.tmp 47) (.agg #[.i x9.a.x,.i x9.a.y]) (.agg #[.i 0,.i 0]) (.bool (!((x9.a.x==0)&&(x9.a.y==0))))] [(_,_,(decide (0<(named x9.verb))),.bool (oQ x9.a.x x9.a.y))] [(50,.bool (((decide (0<(named x9.verb)))&&(!(oQ x9.a.x x9.a.y)))||((decide ((named x9.verb)≤0))&&(!((x9.a.x==0)&&(x9.a.y==0))))))] ⟨fun u hC g=>lM x9.a.x x9.a.y _,trivial⟩ (hk:=⟨aky (fun _=>XO ..) (by kernel_rfl),trivial⟩) fun ac u E32 S=>akf (qJ _ _ ?_);refine aki S (fun lU=>?_) (fun lU=>?_)
 ·refine akg fun _ uq=>adr S 1 [] [(4,.i 6)] fun S=>akf<|uq _ _<|Vp.rt ?_;have q0:=hc13;have q1:(!x9.stands (qG l i))=false:=by rw[←hx7]; exact hc18
  have g0:lg x9.verb 0 x9.a=false:=by have hh:=lU; rw[Cj]at hh; simpa using hh
  have q2:(!x9.fits)=true:=by simp[eG.fits,g0]
  refine akm S Tryz.results208 ?_;exact⟨dX (by rw[hx7]; exact(BH q0 q1 q2).symm),S.E⟩
 refine wp_skip<|jM _ _<|Vp.region<|adr S 3 [] [(7,.i 1)] fun S=>akf ?_;show Code.rounds _ _ _ 3 _ _;rw[rounds_succ];refine wp_seq_k fun _ oh=>akg fun _ lG=>adr S 2 [] [(26,.bool true)] fun S=>akf<|lG _ _<|akq S<|wp_skip<|oh _ _<|wp_seq_k fun _ oM=>wp_block<|akg fun _ jC=>aku S 22 [.mem 0 2,.mem 0 2,.cmp .neq 60 (.tmp 46) (.tmp 47) (.agg #[.i x9.b.x,.i x9.b.y]) (.agg #[.i 0,.i 0]) (.bool (!((x9.b.x==0)&&(x9.b.y==0))))] [(_,_,(decide (1<(named x9.verb))),.bool (oQ x9.b.x x9.b.y))] [(50,.bool (((decide (1<(named x9.verb)))&&(!(oQ x9.b.x x9.b.y)))||((decide ((named x9.verb)≤1))&&(!((x9.b.x==0)&&(x9.b.y==0))))))] ⟨fun u hC g=>lM x9.b.x x9.b.y _,trivial⟩ (hk:=⟨aky (fun _=>XO ..) (by kernel_rfl),trivial⟩) fun ac u E39 S=>akf (jC _ _ ?_);refine aki S (fun zu=>?_) (fun zu=>?_)
 ·refine akg fun _ pJ=>adr S 1 [] [(4,.i 6)] fun S=>akf<|pJ _ _<|Vp.rt ?_;have q0:=hc13;have q1:(!x9.stands (qG l i))=false:=by rw[←hx7]; exact hc18
  have g0:lg x9.verb 0 x9.a=true:=by have hh:=lU; rw[Cj]at hh; simpa using hh
  have g1:lg x9.verb 1 x9.b=false:=by have hh:=zu; rw[Cj]at hh; simpa using hh
  have q2:(!x9.fits)=true:=by simp[eG.fits,g0,g1]
  refine akm S Tryz.results208 ?_;exact⟨dX (by rw[hx7]; exact(BH q0 q1 q2).symm),S.E⟩
 refine wp_skip<|oM _ _<|Vp.region<|adr S 3 [] [(7,.i 2)] fun S=>akf ?_;show Code.rounds _ _ _ 2 _ _;rw[rounds_succ];refine wp_seq_k fun _ qL=>akg fun _ rY=>adr S 2 [] [(26,.bool true)] fun S=>akf<|rY _ _<|akq S<|wp_skip<|qL _ _<|wp_seq_k fun _ uw=>wp_block<|akg fun _ xB=>aku S 22 [.mem 0 4,.mem 0 4,.cmp .neq 60 (.tmp 46) (.tmp 47) (.agg #[.i x9.c.x,.i x9.c.y]) (.agg #[.i 0,.i 0]) (.bool (!((x9.c.x==0)&&(x9.c.y==0))))] [(_,_,(decide (2<(named x9.verb))),.bool (oQ x9.c.x x9.c.y))] [(50,.bool (((decide (2<(named x9.verb)))&&(!(oQ x9.c.x x9.c.y)))||((decide ((named x9.verb)≤2))&&(!((x9.c.x==0)&&(x9.c.y==0))))))] ⟨fun u hC g=>lM x9.c.x x9.c.y _,trivial⟩ (hk:=⟨aky (fun _=>XO ..) (by kernel_rfl),trivial⟩) fun ac u WQ S=>akf (xB _ _ ?_);refine aki S (fun hc47=>?_) (fun hc47=>?_)
 ·refine akg fun _ uU=>adr S 1 [] [(4,.i 6)] fun S=>akf<|uU _ _<|Vp.rt ?_;have q0:=hc13;have q1:(!x9.stands (qG l i))=false:=by rw[←hx7]; exact hc18
  have g0:lg x9.verb 0 x9.a=true:=by have hh:=lU; rw[Cj]at hh; simpa using hh
  have g1:lg x9.verb 1 x9.b=true:=by have hh:=zu; rw[Cj]at hh; simpa using hh
  have g2:lg x9.verb 2 x9.c=false:=by have hh:=hc47; rw[Cj]at hh; simpa using hh
  have q2:(!x9.fits)=true:=by simp[eG.fits,g0,g1,g2]
  refine akm S Tryz.results208 ?_;exact⟨dX (by rw[hx7]; exact(BH q0 q1 q2).symm),S.E⟩
 refine wp_skip<|uw _ _<|Vp.region<|adr S 3 [] [(7,.i 3)] fun S=>akf ?_;show Code.rounds _ _ _ 1 _ _;rw[rounds_succ];refine wp_seq_k fun _ uV=>akg fun _ zk=>adr S 2 [] [(26,.bool false)] fun S=>akf<|zk _ _<|akz S<|wp_exit<|kN _ _<|akg fun _ CQ=>adr S 1 [] [(4,.i 0)] fun S=>akf<|CQ _ _<|Vp.rt ?_;have q0:=hc13;have q1:(!x9.stands (qG l i))=false:=by rw[←hx7]; exact hc18
 have g0:lg x9.verb 0 x9.a=true:=by have hh:=lU; rw[Cj]at hh; simpa using hh
 have g1:lg x9.verb 1 x9.b=true:=by have hh:=zu; rw[Cj]at hh; simpa using hh
 have g2:lg x9.verb 2 x9.c=true:=by have hh:=hc47; rw[Cj]at hh; simpa using hh
 have q2:(!x9.fits)=false:=by simp[eG.fits,g0,g1,g2]
 refine akm S Tryz.results208 ?_;exact⟨dX (by rw[hx7]; exact(Pj q0 q1 q2).symm),S.E⟩
theorem MO{w:World}{v:Value}{l:List eG}(h:og w v l) :
  Calls Tryz.prog 170 #[v] w fun e w'=>e = .returned (.tuple #[.i (dK l).1,.i (dK l).2])∧Ext w w':=by
 obtain⟨a,cap,rfl⟩:=h.1.shape;have hmax:l.length≤9223372036854775807:=h.1.len;refine akk Tryz.func170 Tryz.ntmps170 fun ac S=>akg fun _ aP=>adr S 2 [] [(2,.i 0),(3,.i 0)] fun S=>akf<|aP _ _<|wp_seq_k fun _ fE=>akg fun _ iM=>adr S 3 [] [(8,.bool (256<(l.length:Int)))] fun S=>akf (iM _ _ ?_);refine aki S (fun hc4=>?_) (fun hc4=>?_)
 ·refine akg fun _ dG=>adr S 2 [] [(2,.i 5),(3,.i 256)] fun S=>akf<|dG _ _<|Vp.rt ?_;have p0:256<(l.length:Int):=of_decide_eq_true hc4;refine Sx.rD S Tryz.results170 ?_;have e:dK l=(5,256):=by unfold dK; rw[if_pos p0]
  exact⟨by rw[e],S.E⟩
 refine wp_skip<|fE _ _<|wp_seq_k fun _ jl=>akg fun _ jT=>adr S 1 [] [(4,.i 0)] fun S=>akf<|jT _ _<|wp_block ?_;refine Vp.loop (ι:=Nat) (fun p a' w'=>p≤l.length∧(mD 5 0 l=mD (qG l p) (p:Int) (l.drop p))∧Sx.St w a' w' 22 [(0,.slice a l.length cap),(2,.i 0),(3,.i 0),(4,.i p)] [] []) (fun p=>l.length-p) (0) ⟨Nat.zero_le _,rfl,S.sn⟩ ?_;rintro k ac u hI;try dsimp only at hI
 obtain⟨hk,hR,S⟩:=hI;refine wp_seq_k fun _ dM=>akg fun _ gX=>adr S 4 [] [(12,.bool ((k:Int)<(l.length:Int)))] fun S=>akf (gX _ _ ?_);refine aki S (fun bW=>?_) (fun bW=>?_)
 ·refine wp_skip<|dM _ _<|wp_seq_k fun _ dn=>wp_block<|akg fun _ bV=>adr S 2 [] [(15,.slice a l.length cap),(16,.i k)] (fun S=>?_);have hlt:k<l.length:=by have:=of_decide_eq_true bW; omega
  refine akn S 17 (MN (h.below S.E) hlt) fun ac u Et S=>adr S 1 [] [(5,.i (l[k].err (qG l k)))] fun S=>akf<|bV _ _<|akg fun _ fC=>adr S 2 [] [(19,.bool (((l[k].err (qG l k))) != 0))] fun S=>akf (fC _ _ ?_);refine aki S (fun oO=>?_) (fun oO=>?_)
  ·refine akg fun _ jH=>adr S 4 [] [(2,.i (l[k].err (qG l k))),(3,.i k)] fun S=>akf<|jH _ _<|Vp.rt ?_;have p0:¬256<(l.length:Int):=of_decide_eq_false hc4;have herr:¬(l[k].err (qG l k)=0):=by simpa using oO
   refine Sx.rD S Tryz.results170 ?_;have e:dK l=(l[k].err (qG l k),(k:Int)):=by
    unfold dK;rw[if_neg (by omega),hR,List.drop_eq_getElem_cons hlt,mD,if_neg herr]
   exact⟨by rw[e],S.E⟩
  refine wp_skip<|dn _ _<|Vp.region<|adr S 3 [.re 14 (.i (IntKind.i64.wrap ((k:Int)+1))) (.i (k+1:Nat))] [(4,.i (k+1:Nat))] (hk:=⟨aks (by omega),trivial⟩) fun S=>akf ?_;show ∃i',_∧_;have herr:l[k].err (qG l k)=0:=by simpa using oO
  rw[List.drop_eq_getElem_cons hlt,mD,if_pos herr,←Iu hlt]at hR;exact⟨(k+1),⟨by omega,hR,S.sn⟩,by show _-_<_-_; omega⟩
 refine wp_exit<|jl _ _<|akg fun _ gI=>adr S 2 [] [(2,.i 0),(3,.i 0)] fun S=>akf<|gI _ _<|Vp.rt ?_;have p0:¬256<(l.length:Int):=of_decide_eq_false hc4;have p1:¬(k:Int)<(l.length:Int):=of_decide_eq_false bW;refine Sx.rD S Tryz.results170 ?_;have e:dK l=(0,0):=by
  unfold dK;rw[if_neg (by omega),hR,List.drop_eq_nil_of_le (by omega)];rfl
 exact⟨by rw[e],S.E⟩
theorem BP{w:World}{v:Value}{l:List eG}(h:og w v l) :
  Calls Tryz.prog 130 #[v] w fun e w'=>e = .returned (.bool (jf l))∧Ext w w':=by
 skip;refine akk Tryz.func130 Tryz.ntmps130 fun ac S=>akg fun _ aP=>adr S 1 [] [(2,.bool false)] fun S=>akf<|aP _ _<|akg fun _ fE=>adr S 1 [] [(6,v)] fun S=>akn S 7 (MO (h.below S.E)) fun ac u E3 S=>adr S 5 [] [(3,.i ((dK l).1))] fun S=>akf<|fE _ _<|akg fun _ lX=>adr S 3 [] [(2,.bool (((dK l).1)==0))] fun S=>akf<|lX _ _<|akj S Tryz.results130 ?_;exact⟨rfl,S.E⟩
def lQ(l:List fZ):Nat→Int
 | 0=>0
 | j+1=>match l[j]? with | some s=>s.o | none=>0
theorem AA{l:List fZ}{j:Nat}(h:j<l.length):lQ l (j+1)=l[j].o:=by simp[lQ,h]
theorem Qs{l:List fZ}{k:Nat}(hk:k<l.length)(hR:cZ 0 l=cZ (lQ l k) (l.drop k)∧0≤lQ l k)(hb:¬(l[k].o<lQ l k∨65536<l[k].o)):cZ 0 l=cZ (lQ l (k+1)) (l.drop (k+1))∧0≤lQ l (k+1):=by
 obtain⟨h1,h2⟩:=hR;rw[AA hk];refine⟨?_,by omega⟩;rw[h1,List.drop_eq_getElem_cons hk,cZ,decide_eq_true (p:=lQ l k≤l[k].o) (by omega),decide_eq_true (p:=l[k].o≤65536) (by omega)]; rfl
theorem V7{l:List fZ}{k:Nat}(hk:k<l.length)(hR:cZ 0 l=cZ (lQ l k) (l.drop k)∧0≤lQ l k)(hb:l[k].o<lQ l k∨65536<l[k].o):false=eP l:=by
 unfold eP;rw[hR.1,List.drop_eq_getElem_cons hk,cZ];rcases hb with hb | hb
 ·rw[decide_eq_false (p:=lQ l k≤l[k].o) (by omega)]; simp
 rw[decide_eq_false (p:=l[k].o≤65536) (by omega)]; simp
theorem ac3{l:List fZ}{k:Nat}(hk:l.length≤k)(hR:cZ 0 l=cZ (lQ l k) (l.drop k)∧0≤lQ l k):((decide (1≤(l.length:Int)))&&(decide ((l.length:Int)≤16)))=eP l:=by
 unfold eP;rw[hR.1,List.drop_eq_nil_of_le hk,cZ,Bool.eq_iff_iff];simp only[Bool.and_eq_true,decide_eq_true_eq,and_true];omega
theorem BN{w:World}{v:Value}{l:List fZ}(h:aN 5 fZ.cells w v l) :
  Calls Tryz.prog 257 #[v] w fun e w'=>e = .returned (.bool (eP l))∧Ext w w':=by
 obtain⟨a,cap,rfl⟩:=h.shape;have hmax:l.length≤9223372036854775807:=h.len;refine akk Tryz.func257 Tryz.ntmps257 fun ac S=>akg fun _ aP=>adr S 1 [] [(2,.bool false)] fun S=>akf<|aP _ _<|wp_seq_k fun _ fE=>akg fun _ iM=>adr S 1 [] [(3,.i 0)] fun S=>akf<|iM _ _<|wp_block ?_;refine Vp.loop (ι:=Nat) (fun p a' w'=>p≤l.length∧(cZ 0 l=cZ (lQ l p) (l.drop p)∧0≤lQ l p)∧Sx.St w a' w' 50 [(0,.slice a l.length cap),(2,.bool false),(3,.i p)] [] []) (fun p=>l.length-p) (0) ⟨Nat.zero_le _,⟨rfl,Int.le_refl 0⟩,S.sn⟩ ?_;rintro k ac u hI;try dsimp only at hI
 obtain⟨hk,hR,S⟩:=hI;refine wp_seq_k fun _ lX=>akg fun _ dG=>adr S 4 [] [(7,.bool ((k:Int)<(l.length:Int)))] fun S=>akf (dG _ _ ?_);refine aki S (fun hc6=>?_) (fun hc6=>?_)
 ·refine wp_skip<|lX _ _<|wp_seq_k fun _ jT=>wp_block<|wp_seq_k (fun _ dM=>?_);have hlt:=of_decide_eq_true hc6;rcases k with _ | j
  ·have qP:0<l.length:=(by omega);obtain⟨b10,o11,rfl,x16,xK,I7,Lp⟩:=Vp.gY h (fun _=>rfl) (0) qP;have S:=S.view0 I7 Lp;refine akr S 32 [.idx 0 l.length,.mem 0 0,.idx 0 l.length,.mem 0 0,.dead 28 (.bool false),.dead 29 (.bool false),.dead 30 (.bool false),.dead 31 (.bool false),.dead 32 (.bool false),.dead 33 (.bool false),.dead 34 (.bool false),.dead 35 (.bool false),.dead 36 (.bool false),.dead 37 (.bool false),.dead 38 (.bool false),.dead 39 (.bool false)] [] [(41,.bool (((decide (x16.o<0))||(decide (65536<x16.o)))||false))] trivial (hk:=⟨qP,qP,trivial⟩) fun ac u E9 S=>akf (dM _ _ ?_);refine aki S (fun hc18=>?_) (fun hc18=>?_)
   ·refine akg fun _ jI=>adr S 1 [] [(2,.bool false)] fun S=>akf<|jI _ _<|Vp.rt ?_;have hh:=hc18;rw[←xK]at hh;have hb:(l[0].o<lQ l 0∨65536<l[0].o):=by
     have hl:=hR.2;rw[show lQ l 0=0 from rfl]at *;simp at hh hl ⊢;omega
    refine akm S Tryz.results257 ?_;exact⟨aB (V7 (by omega) hR hb),S.E⟩
   refine wp_skip<|jT _ _<|Vp.region<|adr S 3 [] [(3,.i 1)] fun S=>akf ?_;show ∃i',_∧_;have hh:=hc18;rw[←xK]at hh;have hb:¬(l[0].o<lQ l 0∨65536<l[0].o):=by
    have hl:=hR.2;rw[show lQ l 0=0 from rfl]at *;simp at hh hl ⊢;omega
   exact⟨(0+1),⟨by omega,(Qs (by omega) hR hb),S.sn⟩,by show _-_<_-_; omega⟩
  have ac4:(j+1)<l.length:=(by omega);obtain⟨b21,o22,rfl,x27,hx25,aed,aiK⟩:=Vp.gY h (fun _=>rfl) ((j+1)) ac4;have S:=S.view0 aed aiK;have MP:j<l.length:=(by omega);obtain⟨gU,YA,WC,S9⟩:=Vp.Ye h (fun _=>rfl) (j) MP;have S:=S.view0 WC S9;refine akr S 32 [.idx (j+1) l.length,.mem 1 0,.idx (j+1) l.length,.mem 1 0,.idx (j+1) l.length,.mem 1 0,.re 35 (.i (IntKind.i64.wrap (((j+1:Nat):Int)-1))) (.i j),.idx j l.length,.mem 0 0] [] [(41,.bool (((decide (x27.o<0))||(decide (65536<x27.o)))||((decide (0<(((j+1):Nat):Int)))&&(decide (x27.o<gU.o)))))] trivial (hk:=⟨ac4,ac4,ac4,yX (by omega),MP,trivial⟩) fun ac u Ez S=>akf (dM _ _ ?_);refine aki S (fun pI=>?_) (fun pI=>?_)
  ·refine akg fun _ jC=>adr S 1 [] [(2,.bool false)] fun S=>akf<|jC _ _<|Vp.rt ?_;have hh:=pI;rw[←hx25,←YA]at hh;have hb:(l[(j+1)].o<lQ l (j+1)∨65536<l[(j+1)].o):=by
    have hl:=hR.2;rw[AA (show j<l.length by omega)]at *;simp at hh hl ⊢;omega
   refine akm S Tryz.results257 ?_;exact⟨aB (V7 (by omega) hR hb),S.E⟩
  refine wp_skip<|jT _ _<|Vp.region<|adr S 3 [.re 9 (.i (IntKind.i64.wrap ((((j+1):Nat):Int)+1))) (.i ((j+1)+1:Nat))] [(3,.i ((j+1)+1:Nat))] (hk:=⟨aks (by omega),trivial⟩) fun S=>akf ?_;show ∃i',_∧_;have hh:=pI;rw[←hx25,←YA]at hh;have hb:¬(l[(j+1)].o<lQ l (j+1)∨65536<l[(j+1)].o):=by
   have hl:=hR.2;rw[AA (show j<l.length by omega)]at *;simp at hh hl ⊢;omega
  exact⟨((j+1)+1),⟨by omega,(Qs (by omega) hR hb),S.sn⟩,by show _-_<_-_; omega⟩
 refine wp_exit<|fE _ _<|akg fun _ xg=>adr S 9 [] [(2,.bool ((decide (1≤(l.length:Int)))&&(decide ((l.length:Int)≤16))))] fun S=>akf<|xg _ _<|akj S Tryz.results257 ?_;exact⟨aB (ac3 (by have:=of_decide_eq_false hc6; omega) hR),S.E⟩
end Go.Proofs.YtfmkkemfhjkajaaGreatDoor
