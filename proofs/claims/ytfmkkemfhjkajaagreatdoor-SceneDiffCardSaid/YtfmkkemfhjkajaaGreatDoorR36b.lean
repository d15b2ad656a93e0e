/- Reference 13: paths. -/
import Derived.Test.YtfmkkemfhjkajaaGreatDoorR36
set_option maxHeartbeats 1600000
set_option maxRecDepth 100000
namespace Go.Proofs.YtfmkkemfhjkajaaGreatDoor
open _root_.Go.Proofs.Tryz
open Go.RowKit
variable{α:Type}{K:Nat}
set_option linter.unusedVariables false
theorem nU{j:Nat}(h:j≤9223372036854775807):Value.i (IntKind.i64.wrap (((j+1:Nat):Int)-1)) = .i j:=by
 have:IntKind.i64.wrap (((j+1:Nat):Int)-1)=(j:Int):=by rw[aoW]; omega
 rw[this]
theorem Zi{x:eH}{j:Nat}{last:Int}(h:(((((j+1):Nat):Int)==0)||(last==5))=true):(x.verb==1)=x.stands last:=by
 have h0:((((j+1):Nat):Int)==0)=false:=by simp; omega
 rw[h0,apM]at h;obtain rfl:last=5:=by simpa using h
 simp[eH.stands]
theorem aco{x:eH}{j:Nat}{last:Int}(h:(((((j+1):Nat):Int)==0)||(last==5))=false):((x.verb != 5)||(last != 1))=x.stands last:=by
 simp only[aom,anI,ne_eq]at h;unfold eH.stands;rw[aop];simp only[ao5,anM,bne_iff_ne,ne_eq,anO];omega
theorem NT(v:Int)(w:World) :
  Calls prog 235 #[.i v] w fun e w'=>e = .returned (.i (named v))∧w=w':=by
 skip;refine am0 func235 ntmps235 fun ac S=>amW fun _ aO=>adr S 1 [] [(2,.i 0)] fun S=>amV<|aO _ _<|anj fun _ eG=>amW fun _ gY=>adr S 1 [] [(3,.i v)] fun S=>amV<|gY _ _<|anp<|anj fun _ lQ=>amW fun _ dA=>adr S 2 [] [(4,.bool ((v)==1))] fun S=>amV (dA _ _ ?_);refine amX S (fun hc6=>?_) (fun hc6=>?_)
 ·refine ano<|lQ _ _ ?_;refine amX S (fun kP=>?_) (fun kP=>?_)
  ·refine amW fun _ dJ=>adr S 1 [] [(2,.i 1)] fun S=>amV<|dJ _ _<|anr ?_;have p0:=hc6;try simp only[anO]at p0
   have p1:=kP;try simp only[anO]at p1
   refine am2 S results235 ?_;exact⟨dY (by unfold named; (repeat' split)<;>omega),rfl⟩
  refine amW fun _ gZ=>adr S 2 [] [(7,.bool ((v)==3))] fun S=>amV (gZ _ _ ?_);refine amX S (fun bM=>?_) (fun bM=>?_)
  ·refine amW fun _ bW=>adr S 1 [] [(2,.i 2)] fun S=>amV<|bW _ _<|anr ?_;have p0:=hc6;try simp only[anO]at p0
   have p1:=kP;try simp only[anI,ne_eq]at p1
   have p2:=bM;try simp only[anO]at p2
   refine am2 S results235 ?_;exact⟨dY (by unfold named; (repeat' split)<;>omega),rfl⟩
  refine amW fun _ cZ=>adr S 2 [] [(9,.bool ((v)==4))] fun S=>amV (cZ _ _ ?_);refine amX S (fun hc13=>?_) (fun hc13=>?_)
  ·refine amW fun _ gU=>adr S 1 [] [(2,.i 3)] fun S=>amV<|gU _ _<|anr ?_;have p0:=hc6;try simp only[anO]at p0
   have p1:=kP;try simp only[anI,ne_eq]at p1
   have p2:=bM;try simp only[anI,ne_eq]at p2
   have p3:=hc13;try simp only[anO]at p3
   refine am2 S results235 ?_;exact⟨dY (by unfold named; (repeat' split)<;>omega),rfl⟩
  refine amW fun _ gV=>adr S 2 [] [(11,.bool ((v)==5))] fun S=>amV (gV _ _ ?_);refine amX S (fun hc16=>?_) (fun hc16=>?_)
  ·refine amW fun _ iD=>adr S 1 [] [(2,.i 0)] fun S=>amV<|iD _ _<|anr ?_;have p0:=hc6;try simp only[anO]at p0
   have p1:=kP;try simp only[anI,ne_eq]at p1
   have p2:=bM;try simp only[anI,ne_eq]at p2
   have p3:=hc13;try simp only[anI,ne_eq]at p3
   have p4:=hc16;try simp only[anO]at p4
   refine am2 S results235 ?_;exact⟨dY (by unfold named; (repeat' split)<;>omega),rfl⟩
  refine ano<|eG _ _<|amW fun _ jH=>adr S 1 [] [(2,.i (-1))] fun S=>amV<|jH _ _<|anr ?_;have p0:=hc6;try simp only[anO]at p0
  have p1:=kP;try simp only[anI,ne_eq]at p1
  have p2:=bM;try simp only[anI,ne_eq]at p2
  have p3:=hc13;try simp only[anI,ne_eq]at p3
  have p4:=hc16;try simp only[anI,ne_eq]at p4
  refine am2 S results235 ?_;exact⟨dY (by unfold named; (repeat' split)<;>omega),rfl⟩
 refine ant<|adr S 2 [] [(4,.bool ((v)==2))] fun S=>amV (lQ _ _ ?_);refine amX S (fun hc19=>?_) (fun hc19=>?_)
 ·refine amW fun _ jo=>adr S 1 [] [(2,.i 1)] fun S=>amV<|jo _ _<|anr ?_;have p0:=hc6;try simp only[anI,ne_eq]at p0
  have p1:=hc19;try simp only[anO]at p1
  refine am2 S results235 ?_;exact⟨dY (by unfold named; (repeat' split)<;>omega),rfl⟩
 refine amW fun _ jT=>adr S 2 [] [(7,.bool ((v)==3))] fun S=>amV (jT _ _ ?_);refine amX S (fun hc22=>?_) (fun hc22=>?_)
 ·refine amW fun _ oO=>adr S 1 [] [(2,.i 2)] fun S=>amV<|oO _ _<|anr ?_;have p0:=hc6;try simp only[anI,ne_eq]at p0
  have p1:=hc19;try simp only[anI,ne_eq]at p1
  have p2:=hc22;try simp only[anO]at p2
  refine am2 S results235 ?_;exact⟨dY (by unfold named; (repeat' split)<;>omega),rfl⟩
 refine amW fun _ lq=>adr S 2 [] [(9,.bool ((v)==4))] fun S=>amV (lq _ _ ?_);refine amX S (fun hc25=>?_) (fun hc25=>?_)
 ·refine amW fun _ kQ=>adr S 1 [] [(2,.i 3)] fun S=>amV<|kQ _ _<|anr ?_;have p0:=hc6;try simp only[anI,ne_eq]at p0
  have p1:=hc19;try simp only[anI,ne_eq]at p1
  have p2:=hc22;try simp only[anI,ne_eq]at p2
  have p3:=hc25;try simp only[anO]at p3
  refine am2 S results235 ?_;exact⟨dY (by unfold named; (repeat' split)<;>omega),rfl⟩
 refine amW fun _ kY=>adr S 2 [] [(11,.bool ((v)==5))] fun S=>amV (kY _ _ ?_);refine amX S (fun hc28=>?_) (fun hc28=>?_)
 ·refine amW fun _ qm=>adr S 1 [] [(2,.i 0)] fun S=>amV<|qm _ _<|anr ?_;have p0:=hc6;try simp only[anI,ne_eq]at p0
  have p1:=hc19;try simp only[anI,ne_eq]at p1
  have p2:=hc22;try simp only[anI,ne_eq]at p2
  have p3:=hc25;try simp only[anI,ne_eq]at p3
  have p4:=hc28;try simp only[anO]at p4
  refine am2 S results235 ?_;exact⟨dY (by unfold named; (repeat' split)<;>omega),rfl⟩
 refine ano<|eG _ _<|amW fun _ mM=>adr S 1 [] [(2,.i (-1))] fun S=>amV<|mM _ _<|anr ?_;have p0:=hc6;try simp only[anI,ne_eq]at p0
 have p1:=hc19;try simp only[anI,ne_eq]at p1
 have p2:=hc22;try simp only[anI,ne_eq]at p2
 have p3:=hc25;try simp only[anI,ne_eq]at p3
 have p4:=hc28;try simp only[anI,ne_eq]at p4
 refine am2 S results235 ?_;exact⟨dY (by unfold named; (repeat' split)<;>omega),rfl⟩
theorem NU(s:eH)(w:World) :
  Calls prog 237 #[.agg s.cells.toArray] w fun e w'=>e = .returned (.agg #[.i s.a.x,.i s.a.y,.i s.b.x,.i s.b.y,.i s.c.x,.i s.c.y])∧Ext w w':=by
 skip;refine am0 func237 ntmps237 fun ac S=>amW fun _ aO=>amY S 1 s.cells fun ac u b2 E3 hb4 S=>amY S 2 [.i 0,.i 0,.i 0,.i 0,.i 0,.i 0] fun ac u b5 E6 hb7 S=>amV<|aO _ _<|amW fun _ dJ=>adr S 7 [.mem 1 1,.mem 1 3,.mem 1 5] [(9,.agg #[.i s.a.x,.i s.a.y,.i s.b.x,.i s.b.y,.i s.c.x,.i s.c.y])] fun S=>am1 S 0 (off:=0) (cs:=[.i s.a.x,.i s.a.y,.i s.b.x,.i s.b.y,.i s.c.x,.i s.c.y]) rfl fun u C9 S=>amV<|dJ _ _<|ana S 0 results237 rfl (v := .agg #[.i s.a.x,.i s.a.y,.i s.b.x,.i s.b.y,.i s.c.x,.i s.c.y]) ?_;exact⟨rfl,S.E⟩
theorem IY{w:World}{v:Value}{l:List eH}(h:oU w v l)(hi:0<l.length) :
  Calls prog 236 #[v,.i 0] w fun e w'=>e = .returned (.bool (l[0].stands 5))∧Ext w w':=by
 obtain⟨a,cap,rfl⟩:=h.1.shape;have hmax:l.length≤9223372036854775807:=h.1.len;refine am0 func236 ntmps236 fun ac S=>amW fun _ aO=>adr S 1 [] [(4,.bool false)] fun S=>amV<|aO _ _<|anj fun _ eG=>amW fun _ gY=>adr S 11 [.dead 8 (.bool false),.dead 9 (.bool false),.dead 10 (.bool false),.dead 11 (.bool false),.dead 12 (.bool false),.dead 13 (.bool false),.dead 14 (.bool false)] [(15,.bool true)] fun S=>amV<|gY _ _<|am7 S<|amW (fun _ lQ=>?_);have aiu:0<l.length:=(by omega);obtain⟨b5,o6,rfl,x11,hx9,Sv,hr8⟩:=anF h.1 (fun _=>rfl) (0) aiu;have S:=S.view0 Sv hr8;refine adr S 7 [.idx 0 l.length,.mem 0 0] [(4,.bool ((x11.verb)==1))] (hk:=⟨aiu,trivial⟩) fun S=>amV<|lQ _ _<|amZ S results236 ?_;exact⟨aB (by rw[hx9]; simp[eH.stands]),S.E⟩
theorem IZ{w:World}{v:Value}{l:List eH}{j:Nat}(h:oU w v l)(hi:j+1<l.length) :
  Calls prog 236 #[v,.i (j+1:Nat)] w fun e w'=>e = .returned (.bool (l[j+1].stands l[j].verb))∧Ext w w':=by
 obtain⟨a,cap,rfl⟩:=h.1.shape;have hmax:l.length≤9223372036854775807:=h.1.len;refine am0 func236 ntmps236 fun ac S=>amW fun _ aO=>adr S 1 [] [(4,.bool false)] fun S=>amV<|aO _ _<|anj fun _ eG=>amW (fun _ gY=>?_);have lt9:j<l.length:=(by omega);obtain⟨b4,o5,rfl,x10,Yw,LZ,hr7⟩:=anF h.1 (fun _=>rfl) (j) lt9;have S:=S.view0 LZ hr7;refine adr S 11 [.re 10 (.i (IntKind.i64.wrap (((j+1:Nat):Int)-1))) (.i j),.idx j l.length,.mem 0 0] [(15,.bool ((((((j+1):Nat):Int))==0)||((x10.verb)==5)))] (hk:=⟨nU (by omega),lt9,trivial⟩) fun S=>amV (gY _ _ ?_);refine amX S (fun hc12=>?_) (fun hc12=>?_)
 ·refine amW (fun _ gJ=>?_);have jk:(j+1)<l.length:=(by omega);obtain⟨x20,mY,wS,yu⟩:=Vp.ER h.1 (fun _=>rfl) ((j+1)) jk;have S:=S.view0 wS yu;refine adr S 7 [.idx (j+1) l.length,.mem 0 0] [(4,.bool ((x20.verb)==1))] (hk:=⟨jk,trivial⟩) fun S=>amV<|gJ _ _<|anr ?_;have p0:=hc12;refine am2 S results236 ?_;exact⟨aB (by rw[mY,Yw]; exact Zi p0),S.E⟩
 refine ano<|eG _ _<|amW (fun _ kE=>?_);have kF:(j+1)<l.length:=(by omega);obtain⟨x29,hx27,zJ,Aw⟩:=Vp.ER h.1 (fun _=>rfl) ((j+1)) kF;have S:=S.view0 zJ Aw;refine adr S 16 [.idx (j+1) l.length,.mem 0 0,.re 31 (.i (IntKind.i64.wrap (((j+1:Nat):Int)-1))) (.i j),.idx j l.length,.mem 1 0] [(4,.bool (((x29.verb) != 5)||((x10.verb) != 1)))] (hk:=⟨kF,nU (by omega),lt9,trivial⟩) fun S=>amV<|kE _ _<|anr ?_;have p0:=hc12;refine am2 S results236 ?_;exact⟨aB (by rw[hx27,Yw]; exact aco p0),S.E⟩
def rC(l:List eH):Nat→Int
 | 0=>5
 | j+1=>match l[j]? with | some s=>s.verb | none=>5
theorem I4{l:List eH}{j:Nat}(h:j<l.length):rC l (j+1)=l[j].verb:=by simp[rC,h]
theorem JQ{w:World}{v:Value}{l:List eH}{i:Nat}(h:oU w v l)(hi:i<l.length) :
  Calls prog 236 #[v,.i i] w fun e w'=>e = .returned (.bool (l[i].stands (rC l i)))∧Ext w w':=by
 cases i with
 | zero=>exact IY h hi
 | succ j=>rw[I4 (by omega)]; exact IZ h hi
theorem Nl(p:kZ):pX p.x p.y=p.valid:=by
 unfold pX kZ.valid cok;simp only[apz]
theorem CZ{v j:Int}{p:kZ}:(((decide (j<named v))&&(!(pX p.x p.y)))||((decide (named v≤j))&&(!((p.x==0)&&(p.y==0))))) = !(lF v j p):=by
 rw[Nl];have hz:((p.x==0)&&(p.y==0))=true→p.valid=true:=by
  intro h;simp only[anM,anO]at h;unfold kZ.valid cok;rw[h.1,h.2]; rfl
 unfold lF kZ.zero;by_cases hn:named v≤j
 ·rw[aow (p:=j<named v) (by omega),aoi hn];cases hzz:((p.x==0)&&(p.y==0))
  ·simp
  simp[hz hzz]
 rw[aoi (p:=j<named v) (by omega),aow hn];simp
theorem NV{w:World}{v:Value}{l:List eH}{i:Nat}(h:oU w v l)(hi:i<l.length) :
  Calls prog 208 #[v,.i i] w fun e w'=>e = .returned (.i (l[i].err (rC l i)))∧Ext w w':=by
 obtain⟨a,cap,rfl⟩:=h.1.shape;have hmax:l.length≤9223372036854775807:=h.1.len;refine am0 func208 ntmps208 fun ac S=>amW fun _ aO=>adr S 1 [] [(4,.i 0)] fun S=>amV<|aO _ _<|amW (fun _ eG=>?_);have lt8:i<l.length:=hi;obtain⟨b3,o4,rfl,x9,hx7,xY,hr6⟩:=anF h.1 (fun _=>rfl) (i) lt8;have S:=S.view0 xY hr6;refine adr S 5 [.idx i l.length,.mem 0 0] [(12,.i x9.verb)] (hk:=⟨lt8,trivial⟩) fun S=>anl S 13 (NT (x9.verb) _) fun ac S=>adr S 1 [] [(5,.i (named x9.verb))] fun S=>amV<|eG _ _<|anj fun _ bW=>amW fun _ cZ=>adr S 2 [] [(15,.bool ((named x9.verb)<0))] fun S=>amV (cZ _ _ ?_);refine amX S (fun hc13=>?_) (fun hc13=>?_)
 ·refine amW fun _ gU=>adr S 1 [] [(4,.i 2)] fun S=>amV<|gU _ _<|anr ?_;have q0:=hc13;refine am2 S results208 ?_;exact⟨dY (by rw[hx7]; exact(P6 q0).symm),S.E⟩
 refine ano<|bW _ _<|anj fun _ gV=>amW fun _ jM=>adr S 2 [] [(16,.slice (some ⟨b3,o4,none⟩) l.length cap),(17,.i i)] fun S=>am3 S 18 (JQ (h.below S.E) hi) fun ac u Oy S=>adr S 1 [] [(19,.bool (!(l[i].stands (rC l i))))] fun S=>amV (jM _ _ ?_);refine amX S (fun hc18=>?_) (fun hc18=>?_)
 ·refine amW fun _ ji=>adr S 1 [] [(4,.i 10)] fun S=>amV<|ji _ _<|anr ?_;have q0:=hc13;have q1:(!x9.stands (rC l i))=true:=by rw[←hx7]; exact hc18
  refine am2 S results208 ?_;exact⟨dY (by rw[hx7]; exact(KF q0 q1).symm),S.E⟩
 refine ano<|gV _ _<|amW fun _ jo=>adr S 4 [.idx i l.length,.mem 0 0] [(23,.agg x9.cells.toArray)] (hk:=⟨lt8,trivial⟩) fun S=>am3 S 24 (NU x9 _) fun ac u ES S=>amY S 6 [.i 0,.i 0,.i 0,.i 0,.i 0,.i 0] fun ac u b22 JX Gm S=>am1 S 0 (off:=0) (cs:=[.i x9.a.x,.i x9.a.y,.i x9.b.x,.i x9.b.y,.i x9.c.x,.i x9.c.y]) rfl fun u C25 S=>amV<|jo _ _<|anj fun _ kQ=>amW fun _ kY=>adr S 1 [] [(7,.i 0)] fun S=>amV<|kY _ _<|anp<|aoP 4 ?_;rw[anH];refine anj fun _ kR=>amW fun _ qm=>adr S 2 [] [(26,.bool true)] fun S=>amV<|qm _ _<|am7 S<|ano<|kR _ _<|anj fun _ mM=>anp<|amW fun _ qp=>am9 S 22 [.mem 0 0,.mem 0 0,.cmp .neq 60 (.tmp 46) (.tmp 47) (.agg #[.i x9.a.x,.i x9.a.y]) (.agg #[.i 0,.i 0]) (.bool (!((x9.a.x==0)&&(x9.a.y==0))))] [(_,_,(decide (0<(named x9.verb))),.bool (pX x9.a.x x9.a.y))] [(50,.bool (((decide (0<(named x9.verb)))&&(!(pX x9.a.x x9.a.y)))||((decide ((named x9.verb)≤0))&&(!((x9.a.x==0)&&(x9.a.y==0))))))] ⟨fun u hC g=>lY x9.a.x x9.a.y _,trivial⟩ (hk:=⟨ang (fun _=>YH ..) (by kernel_rfl),trivial⟩) fun ac u E32 S=>amV (qp _ _ ?_);refine amX S (fun mX=>?_) (fun mX=>?_)
 ·refine amW fun _ wQ=>adr S 1 [] [(4,.i 6)] fun S=>amV<|wQ _ _<|anr ?_;have q0:=hc13;have q1:(!x9.stands (rC l i))=false:=by rw[←hx7]; exact hc18
  have g0:lF x9.verb 0 x9.a=false:=by have hh:=mX; rw[CZ]at hh; simpa using hh
  have q2:(!x9.fits)=true:=by simp[eH.fits,g0]
  refine am2 S results208 ?_;exact⟨dY (by rw[hx7]; exact(BZ q0 q1 q2).symm),S.E⟩
 refine ano<|mM _ _<|ant<|adr S 3 [] [(7,.i 1)] fun S=>amV ?_;show Code.rounds _ _ _ 3 _ _;rw[anH];refine anj fun _ nI=>amW fun _ oP=>adr S 2 [] [(26,.bool true)] fun S=>amV<|oP _ _<|am7 S<|ano<|nI _ _<|anj fun _ uH=>anp<|amW fun _ jG=>am9 S 22 [.mem 0 2,.mem 0 2,.cmp .neq 60 (.tmp 46) (.tmp 47) (.agg #[.i x9.b.x,.i x9.b.y]) (.agg #[.i 0,.i 0]) (.bool (!((x9.b.x==0)&&(x9.b.y==0))))] [(_,_,(decide (1<(named x9.verb))),.bool (pX x9.b.x x9.b.y))] [(50,.bool (((decide (1<(named x9.verb)))&&(!(pX x9.b.x x9.b.y)))||((decide ((named x9.verb)≤1))&&(!((x9.b.x==0)&&(x9.b.y==0))))))] ⟨fun u hC g=>lY x9.b.x x9.b.y _,trivial⟩ (hk:=⟨ang (fun _=>YH ..) (by kernel_rfl),trivial⟩) fun ac u E39 S=>amV (jG _ _ ?_);refine amX S (fun zQ=>?_) (fun zQ=>?_)
 ·refine amW fun _ qj=>adr S 1 [] [(4,.i 6)] fun S=>amV<|qj _ _<|anr ?_;have q0:=hc13;have q1:(!x9.stands (rC l i))=false:=by rw[←hx7]; exact hc18
  have g0:lF x9.verb 0 x9.a=true:=by have hh:=mX; rw[CZ]at hh; simpa using hh
  have g1:lF x9.verb 1 x9.b=false:=by have hh:=zQ; rw[CZ]at hh; simpa using hh
  have q2:(!x9.fits)=true:=by simp[eH.fits,g0,g1]
  refine am2 S results208 ?_;exact⟨dY (by rw[hx7]; exact(BZ q0 q1 q2).symm),S.E⟩
 refine ano<|uH _ _<|ant<|adr S 3 [] [(7,.i 2)] fun S=>amV ?_;show Code.rounds _ _ _ 2 _ _;rw[anH];refine anj fun _ ql=>amW fun _ rE=>adr S 2 [] [(26,.bool true)] fun S=>amV<|rE _ _<|am7 S<|ano<|ql _ _<|anj fun _ vg=>anp<|amW fun _ vk=>am9 S 22 [.mem 0 4,.mem 0 4,.cmp .neq 60 (.tmp 46) (.tmp 47) (.agg #[.i x9.c.x,.i x9.c.y]) (.agg #[.i 0,.i 0]) (.bool (!((x9.c.x==0)&&(x9.c.y==0))))] [(_,_,(decide (2<(named x9.verb))),.bool (pX x9.c.x x9.c.y))] [(50,.bool (((decide (2<(named x9.verb)))&&(!(pX x9.c.x x9.c.y)))||((decide ((named x9.verb)≤2))&&(!((x9.c.x==0)&&(x9.c.y==0))))))] ⟨fun u hC g=>lY x9.c.x x9.c.y _,trivial⟩ (hk:=⟨ang (fun _=>YH ..) (by kernel_rfl),trivial⟩) fun ac u E46 S=>amV (vk _ _ ?_);refine amX S (fun hc47=>?_) (fun hc47=>?_)
 ·refine amW fun _ zN=>adr S 1 [] [(4,.i 6)] fun S=>amV<|zN _ _<|anr ?_;have q0:=hc13;have q1:(!x9.stands (rC l i))=false:=by rw[←hx7]; exact hc18
  have g0:lF x9.verb 0 x9.a=true:=by have hh:=mX; rw[CZ]at hh; simpa using hh
  have g1:lF x9.verb 1 x9.b=true:=by have hh:=zQ; rw[CZ]at hh; simpa using hh
  have g2:lF x9.verb 2 x9.c=false:=by have hh:=hc47; rw[CZ]at hh; simpa using hh
  have q2:(!x9.fits)=true:=by simp[eH.fits,g0,g1,g2]
  refine am2 S results208 ?_;exact⟨dY (by rw[hx7]; exact(BZ q0 q1 q2).symm),S.E⟩
 refine ano<|vg _ _<|ant<|adr S 3 [] [(7,.i 3)] fun S=>amV ?_;show Code.rounds _ _ _ 1 _ _;rw[anH];refine anj fun _ xU=>amW fun _ zL=>adr S 2 [] [(26,.bool false)] fun S=>amV<|zL _ _<|ane S<|anB<|kQ _ _<|amW fun _ zI=>adr S 1 [] [(4,.i 0)] fun S=>amV<|zI _ _<|anr ?_;have q0:=hc13;have q1:(!x9.stands (rC l i))=false:=by rw[←hx7]; exact hc18
 have g0:lF x9.verb 0 x9.a=true:=by have hh:=mX; rw[CZ]at hh; simpa using hh
 have g1:lF x9.verb 1 x9.b=true:=by have hh:=zQ; rw[CZ]at hh; simpa using hh
 have g2:lF x9.verb 2 x9.c=true:=by have hh:=hc47; rw[CZ]at hh; simpa using hh
 have q2:(!x9.fits)=false:=by simp[eH.fits,g0,g1,g2]
 refine am2 S results208 ?_;exact⟨dY (by rw[hx7]; exact(P7 q0 q1 q2).symm),S.E⟩
theorem NW{w:World}{v:Value}{l:List eH}(h:oU w v l) :
  Calls prog 170 #[v] w fun e w'=>e = .returned (.tuple #[.i (dM l).1,.i (dM l).2])∧Ext w w':=by
 obtain⟨a,cap,rfl⟩:=h.1.shape;have hmax:l.length≤9223372036854775807:=h.1.len;refine am0 func170 ntmps170 fun ac S=>amW fun _ aO=>adr S 2 [] [(2,.i 0),(3,.i 0)] fun S=>amV<|aO _ _<|anj fun _ eG=>amW fun _ gY=>adr S 3 [] [(8,.bool (256<(l.length:Int)))] fun S=>amV (gY _ _ ?_);refine amX S (fun hc4=>?_) (fun hc4=>?_)
 ·refine amW fun _ dA=>adr S 2 [] [(2,.i 5),(3,.i 256)] fun S=>amV<|dA _ _<|anr ?_;have p0:256<(l.length:Int):=anC hc4;refine aol S results170 ?_;have e:dM l=(5,256):=by unfold dM; rw[anv p0]
  exact⟨by rw[e],S.E⟩
 refine ano<|eG _ _<|anj fun _ iQ=>amW fun _ jB=>adr S 1 [] [(4,.i 0)] fun S=>amV<|jB _ _<|anp ?_;refine anP (ι:=Nat) (fun p a' w'=>p≤l.length∧(ni 5 0 l=ni (rC l p) (p:Int) (l.drop p))∧Sx.St w a' w' 22 [(0,.slice a l.length cap),(2,.i 0),(3,.i 0),(4,.i p)] [] []) (fun p=>l.length-p) (0) ⟨anz _,rfl,S.sn⟩ ?_;rintro k ac u hI;try dsimp only at hI
 obtain⟨hk,hR,S⟩:=hI;refine anj fun _ dJ=>amW fun _ gZ=>adr S 4 [] [(12,.bool ((k:Int)<(l.length:Int)))] fun S=>amV (gZ _ _ ?_);refine amX S (fun bM=>?_) (fun bM=>?_)
 ·refine ano<|dJ _ _<|anj fun _ bW=>anp<|amW fun _ cZ=>adr S 2 [] [(15,.slice a l.length cap),(16,.i k)] (fun S=>?_);have hlt:k<l.length:=by have:=anC bM; omega
  refine am3 S 17 (NV (h.below S.E) hlt) fun ac u Dn S=>adr S 1 [] [(5,.i (l[k].err (rC l k)))] fun S=>amV<|cZ _ _<|amW fun _ gU=>adr S 2 [] [(19,.bool (((l[k].err (rC l k))) != 0))] fun S=>amV (gU _ _ ?_);refine amX S (fun rV=>?_) (fun rV=>?_)
  ·refine amW fun _ jM=>adr S 4 [] [(2,.i (l[k].err (rC l k))),(3,.i k)] fun S=>amV<|jM _ _<|anr ?_;have p0:¬256<(l.length:Int):=anE hc4;have herr:¬(l[k].err (rC l k)=0):=by simpa using rV
   refine aol S results170 ?_;have e:dM l=(l[k].err (rC l k),(k:Int)):=by
    unfold dM;rw[anq (by omega),hR,aoo hlt,ni,anq herr]
   exact⟨by rw[e],S.E⟩
  refine ano<|bW _ _<|ant<|adr S 3 [.re 14 (.i (IntKind.i64.wrap ((k:Int)+1))) (.i (k+1:Nat))] [(4,.i (k+1:Nat))] (hk:=⟨am8 (by omega),trivial⟩) fun S=>amV ?_;show ∃i',_∧_;have herr:l[k].err (rC l k)=0:=by simpa using rV
  rw[aoo hlt,ni,anv herr,←I4 hlt]at hR;exact⟨(k+1),⟨by omega,hR,S.sn⟩,by show _-_<_-_; omega⟩
 refine anB<|iQ _ _<|amW fun _ iD=>adr S 2 [] [(2,.i 0),(3,.i 0)] fun S=>amV<|iD _ _<|anr ?_;have p0:¬256<(l.length:Int):=anE hc4;have p1:¬(k:Int)<(l.length:Int):=anE bM;refine aol S results170 ?_;have e:dM l=(0,0):=by
  unfold dM;rw[anq (by omega),hR,aon (by omega)];rfl
 exact⟨by rw[e],S.E⟩
theorem CO{w:World}{v:Value}{l:List eH}(h:oU w v l) :
  Calls prog 130 #[v] w fun e w'=>e = .returned (.bool (jr l))∧Ext w w':=by
 skip;refine am0 func130 ntmps130 fun ac S=>amW fun _ aO=>adr S 1 [] [(2,.bool false)] fun S=>amV<|aO _ _<|amW fun _ eG=>adr S 1 [] [(6,v)] fun S=>am3 S 7 (NW (h.below S.E)) fun ac u E3 S=>adr S 5 [] [(3,.i ((dM l).1))] fun S=>amV<|eG _ _<|amW fun _ lQ=>adr S 3 [] [(2,.bool (((dM l).1)==0))] fun S=>amV<|lQ _ _<|amZ S results130 ?_;exact⟨rfl,S.E⟩
def mg(l:List gu):Nat→Int
 | 0=>0
 | j+1=>match l[j]? with | some s=>s.o | none=>0
theorem Bl{l:List gu}{j:Nat}(h:j<l.length):mg l (j+1)=l[j].o:=by simp[mg,h]
theorem Rn{l:List gu}{k:Nat}(hk:k<l.length)(hR:dw 0 l=dw (mg l k) (l.drop k)∧0≤mg l k)(hb:¬(l[k].o<mg l k∨65536<l[k].o)):dw 0 l=dw (mg l (k+1)) (l.drop (k+1))∧0≤mg l (k+1):=by
 obtain⟨h1,h2⟩:=hR;rw[Bl hk];refine⟨?_,by omega⟩;rw[h1,aoo hk,dw,aoi (p:=mg l k≤l[k].o) (by omega),aoi (p:=l[k].o≤65536) (by omega)]; rfl
theorem Xm{l:List gu}{k:Nat}(hk:k<l.length)(hR:dw 0 l=dw (mg l k) (l.drop k)∧0≤mg l k)(hb:l[k].o<mg l k∨65536<l[k].o):false=fC l:=by
 unfold fC;rw[hR.1,aoo hk,dw];rcases hb with hb | hb
 ·rw[aow (p:=mg l k≤l[k].o) (by omega)]; simp
 rw[aow (p:=l[k].o≤65536) (by omega)]; simp
theorem aej{l:List gu}{k:Nat}(hk:l.length≤k)(hR:dw 0 l=dw (mg l k) (l.drop k)∧0≤mg l k):((decide (1≤(l.length:Int)))&&(decide ((l.length:Int)≤16)))=fC l:=by
 unfold fC;rw[hR.1,aon hk,dw,aop];simp only[anM,anT,and_true];omega
theorem CG{w:World}{v:Value}{l:List gu}(h:aN 5 gu.cells w v l) :
  Calls prog 257 #[v] w fun e w'=>e = .returned (.bool (fC l))∧Ext w w':=by
 obtain⟨a,cap,rfl⟩:=h.shape;have hmax:l.length≤9223372036854775807:=h.len;refine am0 func257 ntmps257 fun ac S=>amW fun _ aO=>adr S 1 [] [(2,.bool false)] fun S=>amV<|aO _ _<|anj fun _ eG=>amW fun _ gY=>adr S 1 [] [(3,.i 0)] fun S=>amV<|gY _ _<|anp ?_;refine anP (ι:=Nat) (fun p a' w'=>p≤l.length∧(dw 0 l=dw (mg l p) (l.drop p)∧0≤mg l p)∧Sx.St w a' w' 50 [(0,.slice a l.length cap),(2,.bool false),(3,.i p)] [] []) (fun p=>l.length-p) (0) ⟨anz _,⟨rfl,Int.le_refl 0⟩,S.sn⟩ ?_;rintro k ac u hI;try dsimp only at hI
 obtain⟨hk,hR,S⟩:=hI;refine anj fun _ lQ=>amW fun _ dA=>adr S 4 [] [(7,.bool ((k:Int)<(l.length:Int)))] fun S=>amV (dA _ _ ?_);refine amX S (fun hc6=>?_) (fun hc6=>?_)
 ·refine ano<|lQ _ _<|anj fun _ jB=>anp<|anj (fun _ dJ=>?_);have hlt:=anC hc6;rcases k with _ | j
  ·have rG:0<l.length:=(by omega);obtain⟨b10,o11,rfl,x16,yA,JA,ML⟩:=anF h (fun _=>rfl) (0) rG;have S:=S.view0 JA ML;refine am6 S 32 [.idx 0 l.length,.mem 0 0,.idx 0 l.length,.mem 0 0,.dead 28 (.bool false),.dead 29 (.bool false),.dead 30 (.bool false),.dead 31 (.bool false),.dead 32 (.bool false),.dead 33 (.bool false),.dead 34 (.bool false),.dead 35 (.bool false),.dead 36 (.bool false),.dead 37 (.bool false),.dead 38 (.bool false),.dead 39 (.bool false)] [] [(41,.bool (((decide (x16.o<0))||(decide (65536<x16.o)))||false))] trivial (hk:=⟨rG,rG,trivial⟩) fun ac u E9 S=>amV (dJ _ _ ?_);refine amX S (fun hc18=>?_) (fun hc18=>?_)
   ·refine amW fun _ ji=>adr S 1 [] [(2,.bool false)] fun S=>amV<|ji _ _<|anr ?_;have hh:=hc18;rw[←yA]at hh;have hb:(l[0].o<mg l 0∨65536<l[0].o):=by
     have hl:=hR.2;rw[show mg l 0=0 from rfl]at *;simp at hh hl ⊢;omega
    refine am2 S results257 ?_;exact⟨aB (Xm (by omega) hR hb),S.E⟩
   refine ano<|jB _ _<|ant<|adr S 3 [] [(3,.i 1)] fun S=>amV ?_;show ∃i',_∧_;have hh:=hc18;rw[←yA]at hh;have hb:¬(l[0].o<mg l 0∨65536<l[0].o):=by
    have hl:=hR.2;rw[show mg l 0=0 from rfl]at *;simp at hh hl ⊢;omega
   exact⟨(0+1),⟨by omega,(Rn (by omega) hR hb),S.sn⟩,by show _-_<_-_; omega⟩
  have Dc:(j+1)<l.length:=(by omega);obtain⟨b21,o22,rfl,x27,hx25,aai,agV⟩:=anF h (fun _=>rfl) ((j+1)) Dc;have S:=S.view0 aai agV;have aiv:j<l.length:=(by omega);obtain⟨x35,aiw,ad2,aa4⟩:=Vp.ER h (fun _=>rfl) (j) aiv;have S:=S.view0 ad2 aa4;refine am6 S 32 [.idx (j+1) l.length,.mem 1 0,.idx (j+1) l.length,.mem 1 0,.idx (j+1) l.length,.mem 1 0,.re 35 (.i (IntKind.i64.wrap (((j+1:Nat):Int)-1))) (.i j),.idx j l.length,.mem 0 0] [] [(41,.bool (((decide (x27.o<0))||(decide (65536<x27.o)))||((decide (0<(((j+1):Nat):Int)))&&(decide (x27.o<x35.o)))))] trivial (hk:=⟨Dc,Dc,Dc,nU (by omega),aiv,trivial⟩) fun ac u Eh S=>amV (dJ _ _ ?_);refine amX S (fun qC=>?_) (fun qC=>?_)
  ·refine amW fun _ jG=>adr S 1 [] [(2,.bool false)] fun S=>amV<|jG _ _<|anr ?_;have hh:=qC;rw[←hx25,←aiw]at hh;have hb:(l[(j+1)].o<mg l (j+1)∨65536<l[(j+1)].o):=by
    have hl:=hR.2;rw[Bl (show j<l.length by omega)]at *;simp at hh hl ⊢;omega
   refine am2 S results257 ?_;exact⟨aB (Xm (by omega) hR hb),S.E⟩
  refine ano<|jB _ _<|ant<|adr S 3 [.re 9 (.i (IntKind.i64.wrap ((((j+1):Nat):Int)+1))) (.i ((j+1)+1:Nat))] [(3,.i ((j+1)+1:Nat))] (hk:=⟨am8 (by omega),trivial⟩) fun S=>amV ?_;show ∃i',_∧_;have hh:=qC;rw[←hx25,←aiw]at hh;have hb:¬(l[(j+1)].o<mg l (j+1)∨65536<l[(j+1)].o):=by
   have hl:=hR.2;rw[Bl (show j<l.length by omega)]at *;simp at hh hl ⊢;omega
  exact⟨((j+1)+1),⟨by omega,(Rn (by omega) hR hb),S.sn⟩,by show _-_<_-_; omega⟩
 refine anB<|eG _ _<|amW fun _ uF=>adr S 9 [] [(2,.bool ((decide (1≤(l.length:Int)))&&(decide ((l.length:Int)≤16))))] fun S=>amV<|uF _ _<|amZ S results257 ?_;exact⟨aB (aej (by have:=anE hc6; omega) hR),S.E⟩
end Go.Proofs.YtfmkkemfhjkajaaGreatDoor
