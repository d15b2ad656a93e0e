/- Reference 13: paths. -/
import Derived.Test.YtfmkkemfhjkajaaGreatDoorR36
set_option maxHeartbeats 1600000
set_option maxRecDepth 100000
namespace Go.Proofs.YtfmkkemfhjkajaaGreatDoor
open _root_.Go.Proofs.Tryz
open Go.RowKit
variable{α:Type}{K:Nat}
set_option linter.unusedVariables false
theorem yD{j:Nat}(h:j≤9223372036854775807):Value.i (IntKind.i64.wrap (((j+1:Nat):Int)-1)) = .i j:=by
 have:IntKind.i64.wrap (((j+1:Nat):Int)-1)=(j:Int):=by rw[amN]; omega
 rw[this]
theorem Yg{x:dY}{j:Nat}{last:Int}(h:(((((j+1):Nat):Int)==0)||(last==5))=true):(x.verb==1)=x.stands last:=by
 have h0:((((j+1):Nat):Int)==0)=false:=by simp; omega
 rw[h0,anr]at h;obtain rfl:last=5:=by simpa using h
 simp[dY.stands]
theorem aa5{x:dY}{j:Nat}{last:Int}(h:(((((j+1):Nat):Int)==0)||(last==5))=false):((x.verb != 5)||(last != 1))=x.stands last:=by
 simp only[al0,alp,ne_eq]at h;unfold dY.stands;rw[al4];simp only[amK,alr,bne_iff_ne,ne_eq,alu];omega
theorem L8(v:Int)(w:World) :
  Calls prog 235 #[.i v] w fun e w'=>e = .returned (.i (named v))∧w=w':=by
 skip;refine akN func235 ntmps235 fun ac S=>akJ fun _ aS=>adr S 1 [] [(2,.i 0)] fun S=>akI<|aS _ _<|ak6 fun _ fD=>akJ fun _ iD=>adr S 1 [] [(3,.i v)] fun S=>akI<|iD _ _<|ak8<|ak6 fun _ lI=>akJ fun _ dB=>adr S 2 [] [(4,.bool ((v)==1))] fun S=>akI (dB _ _ ?_);refine akL S (fun hc6=>?_) (fun hc6=>?_)
 ·refine ak7<|lI _ _ ?_;refine akL S (fun kW=>?_) (fun kW=>?_)
  ·refine akJ fun _ dP=>adr S 1 [] [(2,.i 1)] fun S=>akI<|dP _ _<|ala ?_;have p0:=hc6;try simp only[alu]at p0
   have p1:=kW;try simp only[alu]at p1
   refine akP S results235 ?_;exact⟨dS (by unfold named; (repeat' split)<;>omega),rfl⟩
  refine akJ fun _ iq=>adr S 2 [] [(7,.bool ((v)==3))] fun S=>akI (iq _ _ ?_);refine akL S (fun bV=>?_) (fun bV=>?_)
  ·refine akJ fun _ dn=>adr S 1 [] [(2,.i 2)] fun S=>akI<|dn _ _<|ala ?_;have p0:=hc6;try simp only[alu]at p0
   have p1:=kW;try simp only[alp,ne_eq]at p1
   have p2:=bV;try simp only[alu]at p2
   refine akP S results235 ?_;exact⟨dS (by unfold named; (repeat' split)<;>omega),rfl⟩
  refine akJ fun _ cO=>adr S 2 [] [(9,.bool ((v)==4))] fun S=>akI (cO _ _ ?_);refine akL S (fun hc13=>?_) (fun hc13=>?_)
  ·refine akJ fun _ fH=>adr S 1 [] [(2,.i 3)] fun S=>akI<|fH _ _<|ala ?_;have p0:=hc6;try simp only[alu]at p0
   have p1:=kW;try simp only[alp,ne_eq]at p1
   have p2:=bV;try simp only[alp,ne_eq]at p2
   have p3:=hc13;try simp only[alu]at p3
   refine akP S results235 ?_;exact⟨dS (by unfold named; (repeat' split)<;>omega),rfl⟩
  refine akJ fun _ fJ=>adr S 2 [] [(11,.bool ((v)==5))] fun S=>akI (fJ _ _ ?_);refine akL S (fun hc16=>?_) (fun hc16=>?_)
  ·refine akJ fun _ gJ=>adr S 1 [] [(2,.i 0)] fun S=>akI<|gJ _ _<|ala ?_;have p0:=hc6;try simp only[alu]at p0
   have p1:=kW;try simp only[alp,ne_eq]at p1
   have p2:=bV;try simp only[alp,ne_eq]at p2
   have p3:=hc13;try simp only[alp,ne_eq]at p3
   have p4:=hc16;try simp only[alu]at p4
   refine akP S results235 ?_;exact⟨dS (by unfold named; (repeat' split)<;>omega),rfl⟩
  refine ak7<|fD _ _<|akJ fun _ jh=>adr S 1 [] [(2,.i (-1))] fun S=>akI<|jh _ _<|ala ?_;have p0:=hc6;try simp only[alu]at p0
  have p1:=kW;try simp only[alp,ne_eq]at p1
  have p2:=bV;try simp only[alp,ne_eq]at p2
  have p3:=hc13;try simp only[alp,ne_eq]at p3
  have p4:=hc16;try simp only[alp,ne_eq]at p4
  refine akP S results235 ?_;exact⟨dS (by unfold named; (repeat' split)<;>omega),rfl⟩
 refine alc<|adr S 2 [] [(4,.bool ((v)==2))] fun S=>akI (lI _ _ ?_);refine akL S (fun hc19=>?_) (fun hc19=>?_)
 ·refine akJ fun _ iT=>adr S 1 [] [(2,.i 1)] fun S=>akI<|iT _ _<|ala ?_;have p0:=hc6;try simp only[alp,ne_eq]at p0
  have p1:=hc19;try simp only[alu]at p1
  refine akP S results235 ?_;exact⟨dS (by unfold named; (repeat' split)<;>omega),rfl⟩
 refine akJ fun _ jI=>adr S 2 [] [(7,.bool ((v)==3))] fun S=>akI (jI _ _ ?_);refine akL S (fun hc22=>?_) (fun hc22=>?_)
 ·refine akJ fun _ lX=>adr S 1 [] [(2,.i 2)] fun S=>akI<|lX _ _<|ala ?_;have p0:=hc6;try simp only[alp,ne_eq]at p0
  have p1:=hc19;try simp only[alp,ne_eq]at p1
  have p2:=hc22;try simp only[alu]at p2
  refine akP S results235 ?_;exact⟨dS (by unfold named; (repeat' split)<;>omega),rfl⟩
 refine akJ fun _ kN=>adr S 2 [] [(9,.bool ((v)==4))] fun S=>akI (kN _ _ ?_);refine akL S (fun hc25=>?_) (fun hc25=>?_)
 ·refine akJ fun _ jZ=>adr S 1 [] [(2,.i 3)] fun S=>akI<|jZ _ _<|ala ?_;have p0:=hc6;try simp only[alp,ne_eq]at p0
  have p1:=hc19;try simp only[alp,ne_eq]at p1
  have p2:=hc22;try simp only[alp,ne_eq]at p2
  have p3:=hc25;try simp only[alu]at p3
  refine akP S results235 ?_;exact⟨dS (by unfold named; (repeat' split)<;>omega),rfl⟩
 refine akJ fun _ kL=>adr S 2 [] [(11,.bool ((v)==5))] fun S=>akI (kL _ _ ?_);refine akL S (fun hc28=>?_) (fun hc28=>?_)
 ·refine akJ fun _ qA=>adr S 1 [] [(2,.i 0)] fun S=>akI<|qA _ _<|ala ?_;have p0:=hc6;try simp only[alp,ne_eq]at p0
  have p1:=hc19;try simp only[alp,ne_eq]at p1
  have p2:=hc22;try simp only[alp,ne_eq]at p2
  have p3:=hc25;try simp only[alp,ne_eq]at p3
  have p4:=hc28;try simp only[alu]at p4
  refine akP S results235 ?_;exact⟨dS (by unfold named; (repeat' split)<;>omega),rfl⟩
 refine ak7<|fD _ _<|akJ fun _ nN=>adr S 1 [] [(2,.i (-1))] fun S=>akI<|nN _ _<|ala ?_;have p0:=hc6;try simp only[alp,ne_eq]at p0
 have p1:=hc19;try simp only[alp,ne_eq]at p1
 have p2:=hc22;try simp only[alp,ne_eq]at p2
 have p3:=hc25;try simp only[alp,ne_eq]at p3
 have p4:=hc28;try simp only[alp,ne_eq]at p4
 refine akP S results235 ?_;exact⟨dS (by unfold named; (repeat' split)<;>omega),rfl⟩
theorem Mc(s:dY)(w:World) :
  Calls prog 237 #[.agg s.cells.toArray] w fun e w'=>e = .returned (.agg #[.i s.a.x,.i s.a.y,.i s.b.x,.i s.b.y,.i s.c.x,.i s.c.y])∧Ext w w':=by
 skip;refine akN func237 ntmps237 fun ac S=>akJ fun _ aS=>akK S 1 s.cells fun ac u b2 E3 hb4 S=>akK S 2 [.i 0,.i 0,.i 0,.i 0,.i 0,.i 0] fun ac u b5 E6 hb7 S=>akI<|aS _ _<|akJ fun _ dP=>adr S 7 [.mem 1 1,.mem 1 3,.mem 1 5] [(9,.agg #[.i s.a.x,.i s.a.y,.i s.b.x,.i s.b.y,.i s.c.x,.i s.c.y])] fun S=>akO S 0 (off:=0) (cs:=[.i s.a.x,.i s.a.y,.i s.b.x,.i s.b.y,.i s.c.x,.i s.c.y]) rfl fun u C9 S=>akI<|dP _ _<|akW S 0 results237 rfl (v := .agg #[.i s.a.x,.i s.a.y,.i s.b.x,.i s.b.y,.i s.c.x,.i s.c.y]) ?_;exact⟨rfl,S.E⟩
theorem Hz{w:World}{v:Value}{l:List dY}(h:nT w v l)(hi:0<l.length) :
  Calls prog 236 #[v,.i 0] w fun e w'=>e = .returned (.bool (l[0].stands 5))∧Ext w w':=by
 obtain⟨a,cap,rfl⟩:=h.1.shape;have hmax:l.length≤9223372036854775807:=h.1.len;refine akN func236 ntmps236 fun ac S=>akJ fun _ aS=>adr S 1 [] [(4,.bool false)] fun S=>akI<|aS _ _<|ak6 fun _ fD=>akJ fun _ iD=>adr S 11 [.dead 8 (.bool false),.dead 9 (.bool false),.dead 10 (.bool false),.dead 11 (.bool false),.dead 12 (.bool false),.dead 13 (.bool false),.dead 14 (.bool false)] [(15,.bool true)] fun S=>akI<|iD _ _<|akT S<|akJ (fun _ lI=>?_);have agB:0<l.length:=(by omega);obtain⟨b5,o6,rfl,x11,hx9,QS,hr8⟩:=als h.1 (fun _=>rfl) (0) agB;have S:=S.view0 QS hr8;refine adr S 7 [.idx 0 l.length,.mem 0 0] [(4,.bool ((x11.verb)==1))] (hk:=⟨agB,trivial⟩) fun S=>akI<|lI _ _<|akM S results236 ?_;exact⟨aB (by rw[hx9]; simp[dY.stands]),S.E⟩
theorem H6{w:World}{v:Value}{l:List dY}{j:Nat}(h:nT w v l)(hi:j+1<l.length) :
  Calls prog 236 #[v,.i (j+1:Nat)] w fun e w'=>e = .returned (.bool (l[j+1].stands l[j].verb))∧Ext w w':=by
 obtain⟨a,cap,rfl⟩:=h.1.shape;have hmax:l.length≤9223372036854775807:=h.1.len;refine akN func236 ntmps236 fun ac S=>akJ fun _ aS=>adr S 1 [] [(4,.bool false)] fun S=>akI<|aS _ _<|ak6 fun _ fD=>akJ (fun _ iD=>?_);have lt9:j<l.length:=(by omega);obtain⟨b4,o5,rfl,x10,Xv,JZ,hr7⟩:=als h.1 (fun _=>rfl) (j) lt9;have S:=S.view0 JZ hr7;refine adr S 11 [.re 10 (.i (IntKind.i64.wrap (((j+1:Nat):Int)-1))) (.i j),.idx j l.length,.mem 0 0] [(15,.bool ((((((j+1):Nat):Int))==0)||((x10.verb)==5)))] (hk:=⟨yD (by omega),lt9,trivial⟩) fun S=>akI (iD _ _ ?_);refine akL S (fun hc12=>?_) (fun hc12=>?_)
 ·refine akJ (fun _ gu=>?_);have kC:(j+1)<l.length:=(by omega);obtain⟨x20,qm,zn,BL⟩:=Vp.XR h.1 (fun _=>rfl) ((j+1)) kC;have S:=S.view0 zn BL;refine adr S 7 [.idx (j+1) l.length,.mem 0 0] [(4,.bool ((x20.verb)==1))] (hk:=⟨kC,trivial⟩) fun S=>akI<|gu _ _<|ala ?_;have p0:=hc12;refine akP S results236 ?_;exact⟨aB (by rw[qm,Xv]; exact Yg p0),S.E⟩
 refine ak7<|fD _ _<|akJ (fun _ jJ=>?_);have sF:(j+1)<l.length:=(by omega);obtain⟨x29,hx27,Iy,KO⟩:=Vp.XR h.1 (fun _=>rfl) ((j+1)) sF;have S:=S.view0 Iy KO;refine adr S 16 [.idx (j+1) l.length,.mem 0 0,.re 31 (.i (IntKind.i64.wrap (((j+1:Nat):Int)-1))) (.i j),.idx j l.length,.mem 1 0] [(4,.bool (((x29.verb) != 5)||((x10.verb) != 1)))] (hk:=⟨sF,yD (by omega),lt9,trivial⟩) fun S=>akI<|jJ _ _<|ala ?_;have p0:=hc12;refine akP S results236 ?_;exact⟨aB (by rw[hx27,Xv]; exact aa5 p0),S.E⟩
def qj(l:List dY):Nat→Int
 | 0=>5
 | j+1=>match l[j]? with | some s=>s.verb | none=>5
theorem H7{l:List dY}{j:Nat}(h:j<l.length):qj l (j+1)=l[j].verb:=by simp[qj,h]
theorem IZ{w:World}{v:Value}{l:List dY}{i:Nat}(h:nT w v l)(hi:i<l.length) :
  Calls prog 236 #[v,.i i] w fun e w'=>e = .returned (.bool (l[i].stands (qj l i)))∧Ext w w':=by
 cases i with
 | zero=>exact Hz h hi
 | succ j=>rw[H7 (by omega)]; exact H6 h hi
theorem Lh(p:kK):oI p.x p.y=p.valid:=by
 unfold oI kK.valid cok;simp only[am3]
theorem Bl{v j:Int}{p:kK}:(((decide (j<named v))&&(!(oI p.x p.y)))||((decide (named v≤j))&&(!((p.x==0)&&(p.y==0))))) = !(kS v j p):=by
 rw[Lh];have hz:((p.x==0)&&(p.y==0))=true→p.valid=true:=by
  intro h;simp only[alr,alu]at h;unfold kK.valid cok;rw[h.1,h.2]; rfl
 unfold kS kK.zero;by_cases hn:named v≤j
 ·rw[amr (p:=j<named v) (by omega),ame hn];cases hzz:((p.x==0)&&(p.y==0))
  ·simp
  simp[hz hzz]
 rw[ame (p:=j<named v) (by omega),amr hn];simp
theorem Md{w:World}{v:Value}{l:List dY}{i:Nat}(h:nT w v l)(hi:i<l.length) :
  Calls prog 208 #[v,.i i] w fun e w'=>e = .returned (.i (l[i].err (qj l i)))∧Ext w w':=by
 obtain⟨a,cap,rfl⟩:=h.1.shape;have hmax:l.length≤9223372036854775807:=h.1.len;refine akN func208 ntmps208 fun ac S=>akJ fun _ aS=>adr S 1 [] [(4,.i 0)] fun S=>akI<|aS _ _<|akJ (fun _ fD=>?_);have lt8:i<l.length:=hi;obtain⟨b3,o4,rfl,x9,hx7,wG,hr6⟩:=als h.1 (fun _=>rfl) (i) lt8;have S:=S.view0 wG hr6;refine adr S 5 [.idx i l.length,.mem 0 0] [(12,.i x9.verb)] (hk:=⟨lt8,trivial⟩) fun S=>ak4 S 13 (L8 (x9.verb) _) fun ac S=>adr S 1 [] [(5,.i (named x9.verb))] fun S=>akI<|fD _ _<|ak6 fun _ dn=>akJ fun _ cO=>adr S 2 [] [(15,.bool ((named x9.verb)<0))] fun S=>akI (cO _ _ ?_);refine akL S (fun hc13=>?_) (fun hc13=>?_)
 ·refine akJ fun _ fH=>adr S 1 [] [(4,.i 2)] fun S=>akI<|fH _ _<|ala ?_;have q0:=hc13;refine akP S results208 ?_;exact⟨dS (by rw[hx7]; exact(OL q0).symm),S.E⟩
 refine ak7<|dn _ _<|ak6 fun _ fJ=>akJ fun _ jC=>adr S 2 [] [(16,.slice (some ⟨b3,o4,none⟩) l.length cap),(17,.i i)] fun S=>akQ S 18 (IZ (h.below S.E) hi) fun ac u EM S=>adr S 1 [] [(19,.bool (!(l[i].stands (qj l i))))] fun S=>akI (jC _ _ ?_);refine akL S (fun hc18=>?_) (fun hc18=>?_)
 ·refine akJ fun _ jf=>adr S 1 [] [(4,.i 10)] fun S=>akI<|jf _ _<|ala ?_;have q0:=hc13;have q1:(!x9.stands (qj l i))=true:=by rw[←hx7]; exact hc18
  refine akP S results208 ?_;exact⟨dS (by rw[hx7]; exact(Jy q0 q1).symm),S.E⟩
 refine ak7<|fJ _ _<|akJ fun _ iT=>adr S 4 [.idx i l.length,.mem 0 0] [(23,.agg x9.cells.toArray)] (hk:=⟨lt8,trivial⟩) fun S=>akQ S 24 (Mc x9 _) fun ac u BA S=>akK S 6 [.i 0,.i 0,.i 0,.i 0,.i 0,.i 0] fun ac u b22 CQ RX S=>akO S 0 (off:=0) (cs:=[.i x9.a.x,.i x9.a.y,.i x9.b.x,.i x9.b.y,.i x9.c.x,.i x9.c.y]) rfl fun u C25 S=>akI<|iT _ _<|ak6 fun _ jZ=>akJ fun _ kL=>adr S 1 [] [(7,.i 0)] fun S=>akI<|kL _ _<|ak8<|amn 4 ?_;rw[aln];refine ak6 fun _ lF=>akJ fun _ qA=>adr S 2 [] [(26,.bool true)] fun S=>akI<|qA _ _<|akT S<|ak7<|lF _ _<|ak6 fun _ nN=>ak8<|akJ fun _ oL=>akX S 22 [.mem 0 0,.mem 0 0,.cmp .neq 60 (.tmp 46) (.tmp 47) (.agg #[.i x9.a.x,.i x9.a.y]) (.agg #[.i 0,.i 0]) (.bool (!((x9.a.x==0)&&(x9.a.y==0))))] [(_,_,(decide (0<(named x9.verb))),.bool (oI x9.a.x x9.a.y))] [(50,.bool (((decide (0<(named x9.verb)))&&(!(oI x9.a.x x9.a.y)))||((decide ((named x9.verb)≤0))&&(!((x9.a.x==0)&&(x9.a.y==0))))))] ⟨fun u hC g=>lu x9.a.x x9.a.y _,trivial⟩ (hk:=⟨ak2 (fun _=>XG ..) (by kernel_rfl),trivial⟩) fun ac u E32 S=>akI (oL _ _ ?_);refine akL S (fun oh=>?_) (fun oh=>?_)
 ·refine akJ fun _ tJ=>adr S 1 [] [(4,.i 6)] fun S=>akI<|tJ _ _<|ala ?_;have q0:=hc13;have q1:(!x9.stands (qj l i))=false:=by rw[←hx7]; exact hc18
  have g0:kS x9.verb 0 x9.a=false:=by have hh:=oh; rw[Bl]at hh; simpa using hh
  have q2:(!x9.fits)=true:=by simp[dY.fits,g0]
  refine akP S results208 ?_;exact⟨dS (by rw[hx7]; exact(AL q0 q1 q2).symm),S.E⟩
 refine ak7<|nN _ _<|alc<|adr S 3 [] [(7,.i 1)] fun S=>akI ?_;show Code.rounds _ _ _ 3 _ _;rw[aln];refine ak6 fun _ lY=>akJ fun _ lZ=>adr S 2 [] [(26,.bool true)] fun S=>akI<|lZ _ _<|akT S<|ak7<|lY _ _<|ak6 fun _ oH=>ak8<|akJ fun _ iW=>akX S 22 [.mem 0 2,.mem 0 2,.cmp .neq 60 (.tmp 46) (.tmp 47) (.agg #[.i x9.b.x,.i x9.b.y]) (.agg #[.i 0,.i 0]) (.bool (!((x9.b.x==0)&&(x9.b.y==0))))] [(_,_,(decide (1<(named x9.verb))),.bool (oI x9.b.x x9.b.y))] [(50,.bool (((decide (1<(named x9.verb)))&&(!(oI x9.b.x x9.b.y)))||((decide ((named x9.verb)≤1))&&(!((x9.b.x==0)&&(x9.b.y==0))))))] ⟨fun u hC g=>lu x9.b.x x9.b.y _,trivial⟩ (hk:=⟨ak2 (fun _=>XG ..) (by kernel_rfl),trivial⟩) fun ac u Wn S=>akI (iW _ _ ?_);refine akL S (fun yO=>?_) (fun yO=>?_)
 ·refine akJ fun _ rF=>adr S 1 [] [(4,.i 6)] fun S=>akI<|rF _ _<|ala ?_;have q0:=hc13;have q1:(!x9.stands (qj l i))=false:=by rw[←hx7]; exact hc18
  have g0:kS x9.verb 0 x9.a=true:=by have hh:=oh; rw[Bl]at hh; simpa using hh
  have g1:kS x9.verb 1 x9.b=false:=by have hh:=yO; rw[Bl]at hh; simpa using hh
  have q2:(!x9.fits)=true:=by simp[dY.fits,g0,g1]
  refine akP S results208 ?_;exact⟨dS (by rw[hx7]; exact(AL q0 q1 q2).symm),S.E⟩
 refine ak7<|oH _ _<|alc<|adr S 3 [] [(7,.i 2)] fun S=>akI ?_;show Code.rounds _ _ _ 2 _ _;rw[aln];refine ak6 fun _ nM=>akJ fun _ rG=>adr S 2 [] [(26,.bool true)] fun S=>akI<|rG _ _<|akT S<|ak7<|nM _ _<|ak6 fun _ wP=>ak8<|akJ fun _ zy=>akX S 22 [.mem 0 4,.mem 0 4,.cmp .neq 60 (.tmp 46) (.tmp 47) (.agg #[.i x9.c.x,.i x9.c.y]) (.agg #[.i 0,.i 0]) (.bool (!((x9.c.x==0)&&(x9.c.y==0))))] [(_,_,(decide (2<(named x9.verb))),.bool (oI x9.c.x x9.c.y))] [(50,.bool (((decide (2<(named x9.verb)))&&(!(oI x9.c.x x9.c.y)))||((decide ((named x9.verb)≤2))&&(!((x9.c.x==0)&&(x9.c.y==0))))))] ⟨fun u hC g=>lu x9.c.x x9.c.y _,trivial⟩ (hk:=⟨ak2 (fun _=>XG ..) (by kernel_rfl),trivial⟩) fun ac u Zv S=>akI (zy _ _ ?_);refine akL S (fun hc47=>?_) (fun hc47=>?_)
 ·refine akJ fun _ wC=>adr S 1 [] [(4,.i 6)] fun S=>akI<|wC _ _<|ala ?_;have q0:=hc13;have q1:(!x9.stands (qj l i))=false:=by rw[←hx7]; exact hc18
  have g0:kS x9.verb 0 x9.a=true:=by have hh:=oh; rw[Bl]at hh; simpa using hh
  have g1:kS x9.verb 1 x9.b=true:=by have hh:=yO; rw[Bl]at hh; simpa using hh
  have g2:kS x9.verb 2 x9.c=false:=by have hh:=hc47; rw[Bl]at hh; simpa using hh
  have q2:(!x9.fits)=true:=by simp[dY.fits,g0,g1,g2]
  refine akP S results208 ?_;exact⟨dS (by rw[hx7]; exact(AL q0 q1 q2).symm),S.E⟩
 refine ak7<|wP _ _<|alc<|adr S 3 [] [(7,.i 3)] fun S=>akI ?_;show Code.rounds _ _ _ 1 _ _;rw[aln];refine ak6 fun _ wE=>akJ fun _ Ac=>adr S 2 [] [(26,.bool false)] fun S=>akI<|Ac _ _<|ak1 S<|alk<|jZ _ _<|akJ fun _ EF=>adr S 1 [] [(4,.i 0)] fun S=>akI<|EF _ _<|ala ?_;have q0:=hc13;have q1:(!x9.stands (qj l i))=false:=by rw[←hx7]; exact hc18
 have g0:kS x9.verb 0 x9.a=true:=by have hh:=oh; rw[Bl]at hh; simpa using hh
 have g1:kS x9.verb 1 x9.b=true:=by have hh:=yO; rw[Bl]at hh; simpa using hh
 have g2:kS x9.verb 2 x9.c=true:=by have hh:=hc47; rw[Bl]at hh; simpa using hh
 have q2:(!x9.fits)=false:=by simp[dY.fits,g0,g1,g2]
 refine akP S results208 ?_;exact⟨dS (by rw[hx7]; exact(OM q0 q1 q2).symm),S.E⟩
theorem Me{w:World}{v:Value}{l:List dY}(h:nT w v l) :
  Calls prog 170 #[v] w fun e w'=>e = .returned (.tuple #[.i (dK l).1,.i (dK l).2])∧Ext w w':=by
 obtain⟨a,cap,rfl⟩:=h.1.shape;have hmax:l.length≤9223372036854775807:=h.1.len;refine akN func170 ntmps170 fun ac S=>akJ fun _ aS=>adr S 2 [] [(2,.i 0),(3,.i 0)] fun S=>akI<|aS _ _<|ak6 fun _ fD=>akJ fun _ iD=>adr S 3 [] [(8,.bool (256<(l.length:Int)))] fun S=>akI (iD _ _ ?_);refine akL S (fun hc4=>?_) (fun hc4=>?_)
 ·refine akJ fun _ dB=>adr S 2 [] [(2,.i 5),(3,.i 256)] fun S=>akI<|dB _ _<|ala ?_;have p0:256<(l.length:Int):=alj hc4;refine Sx.xB S results170 ?_;have e:dK l=(5,256):=by unfold dK; rw[ale p0]
  exact⟨by rw[e],S.E⟩
 refine ak7<|fD _ _<|ak6 fun _ je=>akJ fun _ kJ=>adr S 1 [] [(4,.i 0)] fun S=>akI<|kJ _ _<|ak8 ?_;refine alC (ι:=Nat) (fun p a' w'=>p≤l.length∧(lT 5 0 l=lT (qj l p) (p:Int) (l.drop p))∧Sx.St w a' w' 22 [(0,.slice a l.length cap),(2,.i 0),(3,.i 0),(4,.i p)] [] []) (fun p=>l.length-p) (0) ⟨alg _,rfl,S.sn⟩ ?_;rintro k ac u hI;try dsimp only at hI
 obtain⟨hk,hR,S⟩:=hI;refine ak6 fun _ dP=>akJ fun _ iq=>adr S 4 [] [(12,.bool ((k:Int)<(l.length:Int)))] fun S=>akI (iq _ _ ?_);refine akL S (fun bV=>?_) (fun bV=>?_)
 ·refine ak7<|dP _ _<|ak6 fun _ dn=>ak8<|akJ fun _ cO=>adr S 2 [] [(15,.slice a l.length cap),(16,.i k)] (fun S=>?_);have hlt:k<l.length:=by have:=alj bV; omega
  refine akQ S 17 (Md (h.below S.E) hlt) fun ac u DN S=>adr S 1 [] [(5,.i (l[k].err (qj l k)))] fun S=>akI<|cO _ _<|akJ fun _ fH=>adr S 2 [] [(19,.bool (((l[k].err (qj l k))) != 0))] fun S=>akI (fH _ _ ?_);refine akL S (fun qE=>?_) (fun qE=>?_)
  ·refine akJ fun _ jC=>adr S 4 [] [(2,.i (l[k].err (qj l k))),(3,.i k)] fun S=>akI<|jC _ _<|ala ?_;have p0:¬256<(l.length:Int):=alo hc4;have herr:¬(l[k].err (qj l k)=0):=by simpa using qE
   refine Sx.xB S results170 ?_;have e:dK l=(l[k].err (qj l k),(k:Int)):=by
    unfold dK;rw[ak9 (by omega),hR,al8 hlt,lT,ak9 herr]
   exact⟨by rw[e],S.E⟩
  refine ak7<|dn _ _<|alc<|adr S 3 [.re 14 (.i (IntKind.i64.wrap ((k:Int)+1))) (.i (k+1:Nat))] [(4,.i (k+1:Nat))] (hk:=⟨akV (by omega),trivial⟩) fun S=>akI ?_;show ∃i',_∧_;have herr:l[k].err (qj l k)=0:=by simpa using qE
  rw[al8 hlt,lT,ale herr,←H7 hlt]at hR;exact⟨(k+1),⟨by omega,hR,S.sn⟩,by show _-_<_-_; omega⟩
 refine alk<|je _ _<|akJ fun _ gJ=>adr S 2 [] [(2,.i 0),(3,.i 0)] fun S=>akI<|gJ _ _<|ala ?_;have p0:¬256<(l.length:Int):=alo hc4;have p1:¬(k:Int)<(l.length:Int):=alo bV;refine Sx.xB S results170 ?_;have e:dK l=(0,0):=by
  unfold dK;rw[ak9 (by omega),hR,amd (by omega)];rfl
 exact⟨by rw[e],S.E⟩
theorem A8{w:World}{v:Value}{l:List dY}(h:nT w v l) :
  Calls prog 130 #[v] w fun e w'=>e = .returned (.bool (iY l))∧Ext w w':=by
 skip;refine akN func130 ntmps130 fun ac S=>akJ fun _ aS=>adr S 1 [] [(2,.bool false)] fun S=>akI<|aS _ _<|akJ fun _ fD=>adr S 1 [] [(6,v)] fun S=>akQ S 7 (Me (h.below S.E)) fun ac u E3 S=>adr S 5 [] [(3,.i ((dK l).1))] fun S=>akI<|fD _ _<|akJ fun _ lI=>adr S 3 [] [(2,.bool (((dK l).1)==0))] fun S=>akI<|lI _ _<|akM S results130 ?_;exact⟨rfl,S.E⟩
def lD(l:List fM):Nat→Int
 | 0=>0
 | j+1=>match l[j]? with | some s=>s.o | none=>0
theorem zT{l:List fM}{j:Nat}(h:j<l.length):lD l (j+1)=l[j].o:=by simp[lD,h]
theorem Qg{l:List fM}{k:Nat}(hk:k<l.length)(hR:bZ 0 l=bZ (lD l k) (l.drop k)∧0≤lD l k)(hb:¬(l[k].o<lD l k∨65536<l[k].o)):bZ 0 l=bZ (lD l (k+1)) (l.drop (k+1))∧0≤lD l (k+1):=by
 obtain⟨h1,h2⟩:=hR;rw[zT hk];refine⟨?_,by omega⟩;rw[h1,al8 hk,bZ,ame (p:=lD l k≤l[k].o) (by omega),ame (p:=l[k].o≤65536) (by omega)]; rfl
theorem VP{l:List fM}{k:Nat}(hk:k<l.length)(hR:bZ 0 l=bZ (lD l k) (l.drop k)∧0≤lD l k)(hb:l[k].o<lD l k∨65536<l[k].o):false=eG l:=by
 unfold eG;rw[hR.1,al8 hk,bZ];rcases hb with hb | hb
 ·rw[amr (p:=lD l k≤l[k].o) (by omega)]; simp
 rw[amr (p:=l[k].o≤65536) (by omega)]; simp
theorem acH{l:List fM}{k:Nat}(hk:l.length≤k)(hR:bZ 0 l=bZ (lD l k) (l.drop k)∧0≤lD l k):((decide (1≤(l.length:Int)))&&(decide ((l.length:Int)≤16)))=eG l:=by
 unfold eG;rw[hR.1,amd hk,bZ,al4];simp only[alr,alz,and_true];omega
theorem AY{w:World}{v:Value}{l:List fM}(h:aP 5 fM.cells w v l) :
  Calls prog 257 #[v] w fun e w'=>e = .returned (.bool (eG l))∧Ext w w':=by
 obtain⟨a,cap,rfl⟩:=h.shape;have hmax:l.length≤9223372036854775807:=h.len;refine akN func257 ntmps257 fun ac S=>akJ fun _ aS=>adr S 1 [] [(2,.bool false)] fun S=>akI<|aS _ _<|ak6 fun _ fD=>akJ fun _ iD=>adr S 1 [] [(3,.i 0)] fun S=>akI<|iD _ _<|ak8 ?_;refine alC (ι:=Nat) (fun p a' w'=>p≤l.length∧(bZ 0 l=bZ (lD l p) (l.drop p)∧0≤lD l p)∧Sx.St w a' w' 50 [(0,.slice a l.length cap),(2,.bool false),(3,.i p)] [] []) (fun p=>l.length-p) (0) ⟨alg _,⟨rfl,Int.le_refl 0⟩,S.sn⟩ ?_;rintro k ac u hI;try dsimp only at hI
 obtain⟨hk,hR,S⟩:=hI;refine ak6 fun _ lI=>akJ fun _ dB=>adr S 4 [] [(7,.bool ((k:Int)<(l.length:Int)))] fun S=>akI (dB _ _ ?_);refine akL S (fun hc6=>?_) (fun hc6=>?_)
 ·refine ak7<|lI _ _<|ak6 fun _ kJ=>ak8<|ak6 (fun _ dP=>?_);have hlt:=alj hc6;rcases k with _ | j
  ·have qw:0<l.length:=(by omega);obtain⟨b10,o11,rfl,x16,wY,Iz,KR⟩:=als h (fun _=>rfl) (0) qw;have S:=S.view0 Iz KR;refine akU S 32 [.idx 0 l.length,.mem 0 0,.idx 0 l.length,.mem 0 0,.dead 28 (.bool false),.dead 29 (.bool false),.dead 30 (.bool false),.dead 31 (.bool false),.dead 32 (.bool false),.dead 33 (.bool false),.dead 34 (.bool false),.dead 35 (.bool false),.dead 36 (.bool false),.dead 37 (.bool false),.dead 38 (.bool false),.dead 39 (.bool false)] [] [(41,.bool (((decide (x16.o<0))||(decide (65536<x16.o)))||false))] trivial (hk:=⟨qw,qw,trivial⟩) fun ac u E9 S=>akI (dP _ _ ?_);refine akL S (fun hc18=>?_) (fun hc18=>?_)
   ·refine akJ fun _ jf=>adr S 1 [] [(2,.bool false)] fun S=>akI<|jf _ _<|ala ?_;have hh:=hc18;rw[←wY]at hh;have hb:(l[0].o<lD l 0∨65536<l[0].o):=by
     have hl:=hR.2;rw[show lD l 0=0 from rfl]at *;simp at hh hl ⊢;omega
    refine akP S results257 ?_;exact⟨aB (VP (by omega) hR hb),S.E⟩
   refine ak7<|kJ _ _<|alc<|adr S 3 [] [(3,.i 1)] fun S=>akI ?_;show ∃i',_∧_;have hh:=hc18;rw[←wY]at hh;have hb:¬(l[0].o<lD l 0∨65536<l[0].o):=by
    have hl:=hR.2;rw[show lD l 0=0 from rfl]at *;simp at hh hl ⊢;omega
   exact⟨(0+1),⟨by omega,(Qg (by omega) hR hb),S.sn⟩,by show _-_<_-_; omega⟩
  have I4:(j+1)<l.length:=(by omega);obtain⟨YB,o22,rfl,x27,hx25,Zu,aeZ⟩:=als h (fun _=>rfl) ((j+1)) I4;have S:=S.view0 Zu aeZ;have Qh:j<l.length:=(by omega);obtain⟨x35,Yh,Wy,SE⟩:=Vp.XR h (fun _=>rfl) (j) Qh;have S:=S.view0 Wy SE;refine akU S 32 [.idx (j+1) l.length,.mem 1 0,.idx (j+1) l.length,.mem 1 0,.idx (j+1) l.length,.mem 1 0,.re 35 (.i (IntKind.i64.wrap (((j+1:Nat):Int)-1))) (.i j),.idx j l.length,.mem 0 0] [] [(41,.bool (((decide (x27.o<0))||(decide (65536<x27.o)))||((decide (0<(((j+1):Nat):Int)))&&(decide (x27.o<x35.o)))))] trivial (hk:=⟨I4,I4,I4,yD (by omega),Qh,trivial⟩) fun ac u zk S=>akI (dP _ _ ?_);refine akL S (fun mD=>?_) (fun mD=>?_)
  ·refine akJ fun _ iW=>adr S 1 [] [(2,.bool false)] fun S=>akI<|iW _ _<|ala ?_;have hh:=mD;rw[←hx25,←Yh]at hh;have hb:(l[(j+1)].o<lD l (j+1)∨65536<l[(j+1)].o):=by
    have hl:=hR.2;rw[zT (show j<l.length by omega)]at *;simp at hh hl ⊢;omega
   refine akP S results257 ?_;exact⟨aB (VP (by omega) hR hb),S.E⟩
  refine ak7<|kJ _ _<|alc<|adr S 3 [.re 9 (.i (IntKind.i64.wrap ((((j+1):Nat):Int)+1))) (.i ((j+1)+1:Nat))] [(3,.i ((j+1)+1:Nat))] (hk:=⟨akV (by omega),trivial⟩) fun S=>akI ?_;show ∃i',_∧_;have hh:=mD;rw[←hx25,←Yh]at hh;have hb:¬(l[(j+1)].o<lD l (j+1)∨65536<l[(j+1)].o):=by
   have hl:=hR.2;rw[zT (show j<l.length by omega)]at *;simp at hh hl ⊢;omega
  exact⟨((j+1)+1),⟨by omega,(Qg (by omega) hR hb),S.sn⟩,by show _-_<_-_; omega⟩
 refine alk<|fD _ _<|akJ fun _ qB=>adr S 9 [] [(2,.bool ((decide (1≤(l.length:Int)))&&(decide ((l.length:Int)≤16))))] fun S=>akI<|qB _ _<|akM S results257 ?_;exact⟨aB (acH (by have:=alo hc6; omega) hR),S.E⟩
end Go.Proofs.YtfmkkemfhjkajaaGreatDoor
