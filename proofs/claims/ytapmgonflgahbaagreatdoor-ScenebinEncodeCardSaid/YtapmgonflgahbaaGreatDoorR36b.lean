/- Reference 13: paths. -/
import Derived.Test.YtapmgonflgahbaaGreatDoorPk20
set_option maxHeartbeats 1600000
set_option maxRecDepth 100000
namespace Go.Proofs.YtapmgonflgahbaaGreatDoor
open _root_.Go.Proofs.Tryz
open Go.RowKit
variable{α:Type}{K:Nat}
set_option linter.unusedVariables false
theorem Dp{j:Nat}(h:j≤9223372036854775807):Value.i (IntKind.i64.wrap (((j+1:Nat):Int)-1)) = .i j:=by
 have:IntKind.i64.wrap (((j+1:Nat):Int)-1)=(j:Int):=by rw[ap6]; omega
 rw[this]
theorem XM{x:eU}{j:Nat}{last:Int}(h:(((((j+1):Nat):Int)==0)||(last==5))=true):(x.verb==1)=x.stands last:=by
 have h0:((((j+1):Nat):Int)==0)=false:=by simp; omega
 rw[h0,Bool.false_or]at h;obtain rfl:last=5:=by simpa using h
 simp[eU.stands]
theorem aa5{x:eU}{j:Nat}{last:Int}(h:(((((j+1):Nat):Int)==0)||(last==5))=false):((x.verb != 5)||(last != 1))=x.stands last:=by
 simp only[aoP,aog,ne_eq]at h;unfold eU.stands;rw[aoR];simp only[apt,aoq,bne_iff_ne,ne_eq,aoo];omega
theorem L6(v:Int)(w:World) :
  Calls prog 304 #[.i v] w fun e w'=>e = .returned (.i (named v))∧w=w':=by
 skip;refine anA func304 ntmps304 fun ac S=>anv fun _ aS=>adr S 1 [] [(2,.i 0)] fun S=>anu<|aS _ _<|anV fun _ eP=>anv fun _ jv=>adr S 1 [] [(3,.i v)] fun S=>anu<|jv _ _<|an1<|anV fun _ oq=>anv fun _ bM=>adr S 2 [] [(4,.bool ((v)==1))] fun S=>anu (bM _ _ ?_);refine anx S (fun hc6=>?_) (fun hc6=>?_)
 ·refine anZ<|oq _ _ ?_;refine anx S (fun mG=>?_) (fun mG=>?_)
  ·refine anv fun _ eu=>adr S 1 [] [(2,.i 1)] fun S=>anu<|eu _ _<|an2 ?_;have p0:=hc6;try simp only[aoo]at p0
   have p1:=mG;try simp only[aoo]at p1
   refine anD S results304 ?_;exact⟨dV (by unfold named; (repeat' split)<;>omega),rfl⟩
  refine anv fun _ ig=>adr S 2 [] [(7,.bool ((v)==3))] fun S=>anu (ig _ _ ?_);refine anx S (fun dn=>?_) (fun dn=>?_)
  ·refine anv fun _ cZ=>adr S 1 [] [(2,.i 2)] fun S=>anu<|cZ _ _<|an2 ?_;have p0:=hc6;try simp only[aoo]at p0
   have p1:=mG;try simp only[aog,ne_eq]at p1
   have p2:=dn;try simp only[aoo]at p2
   refine anD S results304 ?_;exact⟨dV (by unfold named; (repeat' split)<;>omega),rfl⟩
  refine anv fun _ dW=>adr S 2 [] [(9,.bool ((v)==4))] fun S=>anu (dW _ _ ?_);refine anx S (fun hc13=>?_) (fun hc13=>?_)
  ·refine anv fun _ fP=>adr S 1 [] [(2,.i 3)] fun S=>anu<|fP _ _<|an2 ?_;have p0:=hc6;try simp only[aoo]at p0
   have p1:=mG;try simp only[aog,ne_eq]at p1
   have p2:=dn;try simp only[aog,ne_eq]at p2
   have p3:=hc13;try simp only[aoo]at p3
   refine anD S results304 ?_;exact⟨dV (by unfold named; (repeat' split)<;>omega),rfl⟩
  refine anv fun _ gQ=>adr S 2 [] [(11,.bool ((v)==5))] fun S=>anu (gQ _ _ ?_);refine anx S (fun hc16=>?_) (fun hc16=>?_)
  ·refine anv fun _ gV=>adr S 1 [] [(2,.i 0)] fun S=>anu<|gV _ _<|an2 ?_;have p0:=hc6;try simp only[aoo]at p0
   have p1:=mG;try simp only[aog,ne_eq]at p1
   have p2:=dn;try simp only[aog,ne_eq]at p2
   have p3:=hc13;try simp only[aog,ne_eq]at p3
   have p4:=hc16;try simp only[aoo]at p4
   refine anD S results304 ?_;exact⟨dV (by unfold named; (repeat' split)<;>omega),rfl⟩
  refine anZ<|eP _ _<|anv fun _ iI=>adr S 1 [] [(2,.i (-1))] fun S=>anu<|iI _ _<|an2 ?_;have p0:=hc6;try simp only[aoo]at p0
  have p1:=mG;try simp only[aog,ne_eq]at p1
  have p2:=dn;try simp only[aog,ne_eq]at p2
  have p3:=hc13;try simp only[aog,ne_eq]at p3
  have p4:=hc16;try simp only[aog,ne_eq]at p4
  refine anD S results304 ?_;exact⟨dV (by unfold named; (repeat' split)<;>omega),rfl⟩
 refine an3<|adr S 2 [] [(4,.bool ((v)==2))] fun S=>anu (oq _ _ ?_);refine anx S (fun hc19=>?_) (fun hc19=>?_)
 ·refine anv fun _ jk=>adr S 1 [] [(2,.i 1)] fun S=>anu<|jk _ _<|an2 ?_;have p0:=hc6;try simp only[aog,ne_eq]at p0
  have p1:=hc19;try simp only[aoo]at p1
  refine anD S results304 ?_;exact⟨dV (by unfold named; (repeat' split)<;>omega),rfl⟩
 refine anv fun _ jC=>adr S 2 [] [(7,.bool ((v)==3))] fun S=>anu (jC _ _ ?_);refine anx S (fun hc22=>?_) (fun hc22=>?_)
 ·refine anv fun _ qL=>adr S 1 [] [(2,.i 2)] fun S=>anu<|qL _ _<|an2 ?_;have p0:=hc6;try simp only[aog,ne_eq]at p0
  have p1:=hc19;try simp only[aog,ne_eq]at p1
  have p2:=hc22;try simp only[aoo]at p2
  refine anD S results304 ?_;exact⟨dV (by unfold named; (repeat' split)<;>omega),rfl⟩
 refine anv fun _ jY=>adr S 2 [] [(9,.bool ((v)==4))] fun S=>anu (jY _ _ ?_);refine anx S (fun hc25=>?_) (fun hc25=>?_)
 ·refine anv fun _ jf=>adr S 1 [] [(2,.i 3)] fun S=>anu<|jf _ _<|an2 ?_;have p0:=hc6;try simp only[aog,ne_eq]at p0
  have p1:=hc19;try simp only[aog,ne_eq]at p1
  have p2:=hc22;try simp only[aog,ne_eq]at p2
  have p3:=hc25;try simp only[aoo]at p3
  refine anD S results304 ?_;exact⟨dV (by unfold named; (repeat' split)<;>omega),rfl⟩
 refine anv fun _ jX=>adr S 2 [] [(11,.bool ((v)==5))] fun S=>anu (jX _ _ ?_);refine anx S (fun hc28=>?_) (fun hc28=>?_)
 ·refine anv fun _ oP=>adr S 1 [] [(2,.i 0)] fun S=>anu<|oP _ _<|an2 ?_;have p0:=hc6;try simp only[aog,ne_eq]at p0
  have p1:=hc19;try simp only[aog,ne_eq]at p1
  have p2:=hc22;try simp only[aog,ne_eq]at p2
  have p3:=hc25;try simp only[aog,ne_eq]at p3
  have p4:=hc28;try simp only[aoo]at p4
  refine anD S results304 ?_;exact⟨dV (by unfold named; (repeat' split)<;>omega),rfl⟩
 refine anZ<|eP _ _<|anv fun _ mM=>adr S 1 [] [(2,.i (-1))] fun S=>anu<|mM _ _<|an2 ?_;have p0:=hc6;try simp only[aog,ne_eq]at p0
 have p1:=hc19;try simp only[aog,ne_eq]at p1
 have p2:=hc22;try simp only[aog,ne_eq]at p2
 have p3:=hc25;try simp only[aog,ne_eq]at p3
 have p4:=hc28;try simp only[aog,ne_eq]at p4
 refine anD S results304 ?_;exact⟨dV (by unfold named; (repeat' split)<;>omega),rfl⟩
theorem L8(s:eU)(w:World) :
  Calls prog 306 #[.agg s.cells.toArray] w fun e w'=>e = .returned (.agg #[.i s.a.x,.i s.a.y,.i s.b.x,.i s.b.y,.i s.c.x,.i s.c.y])∧Ext w w':=by
 skip;refine anA func306 ntmps306 fun ac S=>anv fun _ aS=>anw S 1 s.cells fun ac u b2 E3 hb4 S=>anw S 2 [.i 0,.i 0,.i 0,.i 0,.i 0,.i 0] fun ac u b5 E6 hb7 S=>anu<|aS _ _<|anv fun _ eu=>adr S 7 [.mem 1 1,.mem 1 3,.mem 1 5] [(9,.agg #[.i s.a.x,.i s.a.y,.i s.b.x,.i s.b.y,.i s.c.x,.i s.c.y])] fun S=>anC S 0 (off:=0) (cs:=[.i s.a.x,.i s.a.y,.i s.b.x,.i s.b.y,.i s.c.x,.i s.c.y]) rfl fun u C9 S=>anu<|eu _ _<|anS S 0 results306 rfl (v := .agg #[.i s.a.x,.i s.a.y,.i s.b.x,.i s.b.y,.i s.c.x,.i s.c.y]) ?_;exact⟨rfl,S.E⟩
theorem Hz{w:World}{v:Value}{l:List eU}(h:oI w v l)(hi:0<l.length) :
  Calls prog 305 #[v,.i 0] w fun e w'=>e = .returned (.bool (l[0].stands 5))∧Ext w w':=by
 obtain⟨a,cap,rfl⟩:=h.1.shape;have hmax:l.length≤9223372036854775807:=h.1.len;refine anA func305 ntmps305 fun ac S=>anv fun _ aS=>adr S 1 [] [(4,.z)] fun S=>anu<|aS _ _<|anV fun _ eP=>anv fun _ jv=>adr S 11 [.dead 8 (.z),.dead 9 (.z),.dead 10 (.z),.dead 11 (.z),.dead 12 (.z),.dead 13 (.z),.dead 14 (.z)] [(15,.bool true)] fun S=>anu<|jv _ _<|anH S<|anv (fun _ oq=>?_);have ahA:0<l.length:=(by omega);obtain⟨b5,o6,rfl,x11,hx9,Iq,hr8⟩:=aom h.1 (fun _=>rfl) (0) ahA;have S:=S.view0 Iq hr8;refine adr S 7 [.idx 0 l.length,.mem 0 0] [(4,.bool ((x11.verb)==1))] (hk:=⟨ahA,trivial⟩) fun S=>anu<|oq _ _<|anz S results305 ?_;exact⟨aC (by rw[hx9]; simp[eU.stands]),S.E⟩
theorem H6{w:World}{v:Value}{l:List eU}{j:Nat}(h:oI w v l)(hi:j+1<l.length) :
  Calls prog 305 #[v,.i (j+1:Nat)] w fun e w'=>e = .returned (.bool (l[j+1].stands l[j].verb))∧Ext w w':=by
 obtain⟨a,cap,rfl⟩:=h.1.shape;have hmax:l.length≤9223372036854775807:=h.1.len;refine anA func305 ntmps305 fun ac S=>anv fun _ aS=>adr S 1 [] [(4,.z)] fun S=>anu<|aS _ _<|anV fun _ eP=>anv (fun _ jv=>?_);have lt9:j<l.length:=(by omega);obtain⟨b4,o5,rfl,x10,Wj,N7,hr7⟩:=aom h.1 (fun _=>rfl) (j) lt9;have S:=S.view0 N7 hr7;refine adr S 11 [.re 10 (.i (IntKind.i64.wrap (((j+1:Nat):Int)-1))) (.i j),.idx j l.length,.mem 0 0] [(15,.bool ((((((j+1):Nat):Int))==0)||((x10.verb)==5)))] (hk:=⟨Dp (by omega),lt9,trivial⟩) fun S=>anu (jv _ _ ?_);refine anx S (fun hc12=>?_) (fun hc12=>?_)
 ·refine anv (fun _ iH=>?_);have kP:(j+1)<l.length:=(by omega);obtain⟨x20,qJ,wK,CB⟩:=Vp.Xl h.1 (fun _=>rfl) ((j+1)) kP;have S:=S.view0 wK CB;refine adr S 7 [.idx (j+1) l.length,.mem 0 0] [(4,.bool ((x20.verb)==1))] (hk:=⟨kP,trivial⟩) fun S=>anu<|iH _ _<|an2 ?_;have p0:=hc12;refine anD S results305 ?_;exact⟨aC (by rw[qJ,Wj]; exact XM p0),S.E⟩
 refine anZ<|eP _ _<|anv (fun _ jA=>?_);have pq:(j+1)<l.length:=(by omega);obtain⟨x29,hx27,ET,EU⟩:=Vp.Xl h.1 (fun _=>rfl) ((j+1)) pq;have S:=S.view0 ET EU;refine adr S 16 [.idx (j+1) l.length,.mem 0 0,.re 31 (.i (IntKind.i64.wrap (((j+1:Nat):Int)-1))) (.i j),.idx j l.length,.mem 1 0] [(4,.bool (((x29.verb) != 5)||((x10.verb) != 1)))] (hk:=⟨pq,Dp (by omega),lt9,trivial⟩) fun S=>anu<|jA _ _<|an2 ?_;have p0:=hc12;refine anD S results305 ?_;exact⟨aC (by rw[hx27,Wj]; exact aa5 p0),S.E⟩
def qI(l:List eU):Nat→Int
 | 0=>5
 | j+1=>match l[j]? with | some s=>s.verb | none=>5
theorem H7{l:List eU}{j:Nat}(h:j<l.length):qI l (j+1)=l[j].verb:=by simp[qI,h]
theorem I4{w:World}{v:Value}{l:List eU}{i:Nat}(h:oI w v l)(hi:i<l.length) :
  Calls prog 305 #[v,.i i] w fun e w'=>e = .returned (.bool (l[i].stands (qI l i)))∧Ext w w':=by
 cases i with
 | zero=>exact Hz h hi
 | succ j=>rw[H7 (by omega)]; exact H6 h hi
theorem KX(p:kU):oU p.x p.y=p.valid:=by
 unfold oU kU.valid cok;simp only[apg]
theorem BO{v j:Int}{p:kU}:(((decide (j<named v))&&(!(oU p.x p.y)))||((decide (named v≤j))&&(!((p.x==0)&&(p.y==0))))) = !(lF v j p):=by
 rw[KX];have hz:((p.x==0)&&(p.y==0))=true→p.valid=true:=by
  intro h;simp only[aoq,aoo]at h;unfold kU.valid cok;rw[h.1,h.2]; rfl
 unfold lF kU.zero;by_cases hn:named v≤j
 ·rw[apa (p:=j<named v) (by omega),aoX hn];cases hzz:((p.x==0)&&(p.y==0))
  ·simp
  simp[hz hzz]
 rw[aoX (p:=j<named v) (by omega),apa hn];simp
theorem Mc{w:World}{v:Value}{l:List eU}{i:Nat}(h:oI w v l)(hi:i<l.length) :
  Calls prog 264 #[v,.i i] w fun e w'=>e = .returned (.i (l[i].err (qI l i)))∧Ext w w':=by
 obtain⟨a,cap,rfl⟩:=h.1.shape;have hmax:l.length≤9223372036854775807:=h.1.len;refine anA func264 ntmps264 fun ac S=>anv fun _ aS=>adr S 1 [] [(4,.i 0)] fun S=>anu<|aS _ _<|anv (fun _ eP=>?_);have lt8:i<l.length:=hi;obtain⟨b3,o4,rfl,x9,hx7,wH,hr6⟩:=aom h.1 (fun _=>rfl) (i) lt8;have S:=S.view0 wH hr6;refine adr S 5 [.idx i l.length,.mem 0 0] [(12,.i x9.verb)] (hk:=⟨lt8,trivial⟩) fun S=>anX S 13 (L6 (x9.verb) _) fun ac S=>adr S 1 [] [(5,.i (named x9.verb))] fun S=>anu<|eP _ _<|anV fun _ cZ=>anv fun _ dW=>adr S 2 [] [(15,.bool ((named x9.verb)<0))] fun S=>anu (dW _ _ ?_);refine anx S (fun hc13=>?_) (fun hc13=>?_)
 ·refine anv fun _ fP=>adr S 1 [] [(4,.i 2)] fun S=>anu<|fP _ _<|an2 ?_;have q0:=hc13;refine anD S results264 ?_;exact⟨dV (by rw[hx7]; exact(Oe q0).symm),S.E⟩
 refine anZ<|cZ _ _<|anV fun _ gQ=>anv fun _ iM=>adr S 2 [] [(16,.slice (some ⟨b3,o4,none⟩) l.length cap),(17,.i i)] fun S=>anE S 18 (I4 (h.below S.E) hi) fun ac u wI S=>adr S 1 [] [(19,.bool (!(l[i].stands (qI l i))))] fun S=>anu (iM _ _ ?_);refine anx S (fun hc18=>?_) (fun hc18=>?_)
 ·refine anv fun _ iU=>adr S 1 [] [(4,.i 10)] fun S=>anu<|iU _ _<|an2 ?_;have q0:=hc13;have q1:(!x9.stands (qI l i))=true:=by rw[←hx7]; exact hc18
  refine anD S results264 ?_;exact⟨dV (by rw[hx7]; exact(Jr q0 q1).symm),S.E⟩
 refine anZ<|gQ _ _<|anv fun _ jk=>adr S 4 [.idx i l.length,.mem 0 0] [(23,.agg x9.cells.toArray)] (hk:=⟨lt8,trivial⟩) fun S=>anE S 24 (L8 x9 _) fun ac u uh S=>anw S 6 [.i 0,.i 0,.i 0,.i 0,.i 0,.i 0] fun ac u b22 CJ QK S=>anC S 0 (off:=0) (cs:=[.i x9.a.x,.i x9.a.y,.i x9.b.x,.i x9.b.y,.i x9.c.x,.i x9.c.y]) rfl fun u X6 S=>anu<|jk _ _<|anV fun _ jf=>anv fun _ jX=>adr S 1 [] [(7,.i 0)] fun S=>anu<|jX _ _<|an1<|apb 4 ?_;rw[aoj];refine anV fun _ ni=>anv fun _ oP=>adr S 2 [] [(26,.bool true)] fun S=>anu<|oP _ _<|anH S<|anZ<|ni _ _<|anV fun _ mM=>an1<|anv fun _ qg=>anK S 22 [.mem 0 0,.mem 0 0,.cmp .neq 123 (.tmp 46) (.tmp 47) (.agg #[.i x9.a.x,.i x9.a.y]) (.agg #[.i 0,.i 0]) (.bool (!((x9.a.x==0)&&(x9.a.y==0))))] [(_,_,(decide (0<(named x9.verb))),.bool (oU x9.a.x x9.a.y))] [(50,.bool (((decide (0<(named x9.verb)))&&(!(oU x9.a.x x9.a.y)))||((decide ((named x9.verb)≤0))&&(!((x9.a.x==0)&&(x9.a.y==0))))))] ⟨fun u hC g=>lU x9.a.x x9.a.y _,trivial⟩ (hk:=⟨anN (fun _=>WC ..) (by kernel_rfl),trivial⟩) fun ac u E32 S=>anu (qg _ _ ?_);refine anx S (fun qY=>?_) (fun qY=>?_)
 ·refine anv fun _ oQ=>adr S 1 [] [(4,.i 6)] fun S=>anu<|oQ _ _<|an2 ?_;have q0:=hc13;have q1:(!x9.stands (qI l i))=false:=by rw[←hx7]; exact hc18
  have g0:lF x9.verb 0 x9.a=false:=by have hh:=qY; rw[BO]at hh; simpa using hh
  have q2:(!x9.fits)=true:=by simp[eU.fits,g0]
  refine anD S results264 ?_;exact⟨dV (by rw[hx7]; exact(AX q0 q1 q2).symm),S.E⟩
 refine anZ<|mM _ _<|an3<|adr S 3 [] [(7,.i 1)] fun S=>anu ?_;show Code.rounds _ _ _ 3 _ _;rw[aoj];refine anV fun _ nZ=>anv fun _ nD=>adr S 2 [] [(26,.bool true)] fun S=>anu<|nD _ _<|anH S<|anZ<|nZ _ _<|anV fun _ qK=>an1<|anv fun _ l7=>anK S 22 [.mem 0 2,.mem 0 2,.cmp .neq 123 (.tmp 46) (.tmp 47) (.agg #[.i x9.b.x,.i x9.b.y]) (.agg #[.i 0,.i 0]) (.bool (!((x9.b.x==0)&&(x9.b.y==0))))] [(_,_,(decide (1<(named x9.verb))),.bool (oU x9.b.x x9.b.y))] [(50,.bool (((decide (1<(named x9.verb)))&&(!(oU x9.b.x x9.b.y)))||((decide ((named x9.verb)≤1))&&(!((x9.b.x==0)&&(x9.b.y==0))))))] ⟨fun u hC g=>lU x9.b.x x9.b.y _,trivial⟩ (hk:=⟨anN (fun _=>WC ..) (by kernel_rfl),trivial⟩) fun ac u TW S=>anu (l7 _ _ ?_);refine anx S (fun yR=>?_) (fun yR=>?_)
 ·refine anv fun _ xk=>adr S 1 [] [(4,.i 6)] fun S=>anu<|xk _ _<|an2 ?_;have q0:=hc13;have q1:(!x9.stands (qI l i))=false:=by rw[←hx7]; exact hc18
  have g0:lF x9.verb 0 x9.a=true:=by have hh:=qY; rw[BO]at hh; simpa using hh
  have g1:lF x9.verb 1 x9.b=false:=by have hh:=yR; rw[BO]at hh; simpa using hh
  have q2:(!x9.fits)=true:=by simp[eU.fits,g0,g1]
  refine anD S results264 ?_;exact⟨dV (by rw[hx7]; exact(AX q0 q1 q2).symm),S.E⟩
 refine anZ<|qK _ _<|an3<|adr S 3 [] [(7,.i 2)] fun S=>anu ?_;show Code.rounds _ _ _ 2 _ _;rw[aoj];refine anV fun _ sF=>anv fun _ rX=>adr S 2 [] [(26,.bool true)] fun S=>anu<|rX _ _<|anH S<|anZ<|sF _ _<|anV fun _ zQ=>an1<|anv fun _ FI=>anK S 22 [.mem 0 4,.mem 0 4,.cmp .neq 123 (.tmp 46) (.tmp 47) (.agg #[.i x9.c.x,.i x9.c.y]) (.agg #[.i 0,.i 0]) (.bool (!((x9.c.x==0)&&(x9.c.y==0))))] [(_,_,(decide (2<(named x9.verb))),.bool (oU x9.c.x x9.c.y))] [(50,.bool (((decide (2<(named x9.verb)))&&(!(oU x9.c.x x9.c.y)))||((decide ((named x9.verb)≤2))&&(!((x9.c.x==0)&&(x9.c.y==0))))))] ⟨fun u hC g=>lU x9.c.x x9.c.y _,trivial⟩ (hk:=⟨anN (fun _=>WC ..) (by kernel_rfl),trivial⟩) fun ac u E46 S=>anu (FI _ _ ?_);refine anx S (fun hc47=>?_) (fun hc47=>?_)
 ·refine anv fun _ wF=>adr S 1 [] [(4,.i 6)] fun S=>anu<|wF _ _<|an2 ?_;have q0:=hc13;have q1:(!x9.stands (qI l i))=false:=by rw[←hx7]; exact hc18
  have g0:lF x9.verb 0 x9.a=true:=by have hh:=qY; rw[BO]at hh; simpa using hh
  have g1:lF x9.verb 1 x9.b=true:=by have hh:=yR; rw[BO]at hh; simpa using hh
  have g2:lF x9.verb 2 x9.c=false:=by have hh:=hc47; rw[BO]at hh; simpa using hh
  have q2:(!x9.fits)=true:=by simp[eU.fits,g0,g1,g2]
  refine anD S results264 ?_;exact⟨dV (by rw[hx7]; exact(AX q0 q1 q2).symm),S.E⟩
 refine anZ<|zQ _ _<|an3<|adr S 3 [] [(7,.i 3)] fun S=>anu ?_;show Code.rounds _ _ _ 1 _ _;rw[aoj];refine anV fun _ yM=>anv fun _ yN=>adr S 2 [] [(26,.z)] fun S=>anu<|yN _ _<|anM S<|aod<|jf _ _<|anv fun _ FP=>adr S 1 [] [(4,.i 0)] fun S=>anu<|FP _ _<|an2 ?_;have q0:=hc13;have q1:(!x9.stands (qI l i))=false:=by rw[←hx7]; exact hc18
 have g0:lF x9.verb 0 x9.a=true:=by have hh:=qY; rw[BO]at hh; simpa using hh
 have g1:lF x9.verb 1 x9.b=true:=by have hh:=yR; rw[BO]at hh; simpa using hh
 have g2:lF x9.verb 2 x9.c=true:=by have hh:=hc47; rw[BO]at hh; simpa using hh
 have q2:(!x9.fits)=false:=by simp[eU.fits,g0,g1,g2]
 refine anD S results264 ?_;exact⟨dV (by rw[hx7]; exact(Og q0 q1 q2).symm),S.E⟩
theorem Md{w:World}{v:Value}{l:List eU}(h:oI w v l) :
  Calls prog 214 #[v] w fun e w'=>e = .returned (.tuple #[.i (dO l).1,.i (dO l).2])∧Ext w w':=by
 obtain⟨a,cap,rfl⟩:=h.1.shape;have hmax:l.length≤9223372036854775807:=h.1.len;refine anA func214 ntmps214 fun ac S=>anv fun _ aS=>adr S 2 [] [(2,.i 0),(3,.i 0)] fun S=>anu<|aS _ _<|anV fun _ eP=>anv fun _ jv=>adr S 3 [] [(8,.bool (256<(l.length:Int)))] fun S=>anu (jv _ _ ?_);refine anx S (fun hc4=>?_) (fun hc4=>?_)
 ·refine anv fun _ bM=>adr S 2 [] [(2,.i 5),(3,.i 256)] fun S=>anu<|bM _ _<|an2 ?_;have p0:256<(l.length:Int):=aoe hc4;refine Sx.qZ S results214 ?_;have e:dO l=(5,256):=by unfold dO; rw[an6 p0]
  exact⟨by rw[e],S.E⟩
 refine anZ<|eP _ _<|anV fun _ iL=>anv fun _ iZ=>adr S 1 [] [(4,.i 0)] fun S=>anu<|iZ _ _<|an1 ?_;refine aow (ι:=Nat) (fun p a' w'=>p≤l.length∧(mX 5 0 l=mX (qI l p) (p:Int) (l.drop p))∧Sx.St w a' w' 22 [(0,.slice a l.length cap),(2,.i 0),(3,.i 0),(4,.i p)] [] []) (fun p=>l.length-p) (0) ⟨aoa _,rfl,S.sn⟩ ?_;rintro k ac u hI;try dsimp only at hI
 obtain⟨hk,hR,S⟩:=hI;refine anV fun _ eu=>anv fun _ ig=>adr S 4 [] [(12,.bool ((k:Int)<(l.length:Int)))] fun S=>anu (ig _ _ ?_);refine anx S (fun dn=>?_) (fun dn=>?_)
 ·refine anZ<|eu _ _<|anV fun _ cZ=>an1<|anv fun _ dW=>adr S 2 [] [(15,.slice a l.length cap),(16,.i k)] (fun S=>?_);have hlt:k<l.length:=by have:=aoe dn; omega
  refine anE S 17 (Mc (h.below S.E) hlt) fun ac u Dv S=>adr S 1 [] [(5,.i (l[k].err (qI l k)))] fun S=>anu<|dW _ _<|anv fun _ fP=>adr S 2 [] [(19,.bool (((l[k].err (qI l k))) != 0))] fun S=>anu (fP _ _ ?_);refine anx S (fun vw=>?_) (fun vw=>?_)
  ·refine anv fun _ iM=>adr S 4 [] [(2,.i (l[k].err (qI l k))),(3,.i k)] fun S=>anu<|iM _ _<|an2 ?_;have p0:¬256<(l.length:Int):=aoi hc4;have herr:¬(l[k].err (qI l k)=0):=by simpa using vw
   refine Sx.qZ S results214 ?_;have e:dO l=(l[k].err (qI l k),(k:Int)):=by
    unfold dO;rw[an0 (by omega),hR,ao2 hlt,mX,an0 herr]
   exact⟨by rw[e],S.E⟩
  refine anZ<|cZ _ _<|an3<|adr S 3 [.re 14 (.i (IntKind.i64.wrap ((k:Int)+1))) (.i (k+1:Nat))] [(4,.i (k+1:Nat))] (hk:=⟨anJ (by omega),trivial⟩) fun S=>anu ?_;show ∃i',_∧_;have herr:l[k].err (qI l k)=0:=by simpa using vw
  rw[ao2 hlt,mX,an6 herr,←H7 hlt]at hR;exact⟨(k+1),⟨by omega,hR,S.sn⟩,by show _-_<_-_; omega⟩
 refine aod<|iL _ _<|anv fun _ gV=>adr S 2 [] [(2,.i 0),(3,.i 0)] fun S=>anu<|gV _ _<|an2 ?_;have p0:¬256<(l.length:Int):=aoi hc4;have p1:¬(k:Int)<(l.length:Int):=aoi dn;refine Sx.qZ S results214 ?_;have e:dO l=(0,0):=by
  unfold dO;rw[an0 (by omega),hR,apm (by omega)];rfl
 exact⟨by rw[e],S.E⟩
theorem Bl{w:World}{v:Value}{l:List eU}(h:oI w v l) :
  Calls prog 155 #[v] w fun e w'=>e = .returned (.bool (iY l))∧Ext w w':=by
 skip;refine anA func155 ntmps155 fun ac S=>anv fun _ aS=>adr S 1 [] [(2,.z)] fun S=>anu<|aS _ _<|anv fun _ eP=>adr S 1 [] [(6,v)] fun S=>anE S 7 (Md (h.below S.E)) fun ac u E3 S=>adr S 5 [] [(3,.i ((dO l).1))] fun S=>anu<|eP _ _<|anv fun _ oq=>adr S 3 [] [(2,.bool (((dO l).1)==0))] fun S=>anu<|oq _ _<|anz S results155 ?_;exact⟨rfl,S.E⟩
def lY(l:List fH):Nat→Int
 | 0=>0
 | j+1=>match l[j]? with | some s=>s.o | none=>0
theorem Ah{l:List fH}{j:Nat}(h:j<l.length):lY l (j+1)=l[j].o:=by simp[lY,h]
theorem Qb{l:List fH}{k:Nat}(hk:k<l.length)(hR:dG 0 l=dG (lY l k) (l.drop k)∧0≤lY l k)(hb:¬(l[k].o<lY l k∨65536<l[k].o)):dG 0 l=dG (lY l (k+1)) (l.drop (k+1))∧0≤lY l (k+1):=by
 obtain⟨h1,h2⟩:=hR;rw[Ah hk];refine⟨?_,by omega⟩;rw[h1,ao2 hk,dG,aoX (p:=lY l k≤l[k].o) (by omega),aoX (p:=l[k].o≤65536) (by omega)]; rfl
theorem Vh{l:List fH}{k:Nat}(hk:k<l.length)(hR:dG 0 l=dG (lY l k) (l.drop k)∧0≤lY l k)(hb:l[k].o<lY l k∨65536<l[k].o):false=fA l:=by
 unfold fA;rw[hR.1,ao2 hk,dG];rcases hb with hb | hb
 ·rw[apa (p:=lY l k≤l[k].o) (by omega)]; simp
 rw[apa (p:=l[k].o≤65536) (by omega)]; simp
theorem acU{l:List fH}{k:Nat}(hk:l.length≤k)(hR:dG 0 l=dG (lY l k) (l.drop k)∧0≤lY l k):((decide (1≤(l.length:Int)))&&(decide ((l.length:Int)≤16)))=fA l:=by
 unfold fA;rw[hR.1,apm hk,dG,aoR];simp only[aoq,aov,and_true];omega
theorem Bj{w:World}{v:Value}{l:List fH}(h:aV 5 fH.cells w v l) :
  Calls prog 340 #[v] w fun e w'=>e = .returned (.bool (fA l))∧Ext w w':=by
 obtain⟨a,cap,rfl⟩:=h.shape;have hmax:l.length≤9223372036854775807:=h.len;refine anA func340 ntmps340 fun ac S=>anv fun _ aS=>adr S 1 [] [(2,.z)] fun S=>anu<|aS _ _<|anV fun _ eP=>anv fun _ jv=>adr S 1 [] [(3,.i 0)] fun S=>anu<|jv _ _<|an1 ?_;refine aow (ι:=Nat) (fun p a' w'=>p≤l.length∧(dG 0 l=dG (lY l p) (l.drop p)∧0≤lY l p)∧Sx.St w a' w' 50 [(0,.slice a l.length cap),(2,.z),(3,.i p)] [] []) (fun p=>l.length-p) (0) ⟨aoa _,⟨rfl,Int.le_refl 0⟩,S.sn⟩ ?_;rintro k ac u hI;try dsimp only at hI
 obtain⟨hk,hR,S⟩:=hI;refine anV fun _ oq=>anv fun _ bM=>adr S 4 [] [(7,.bool ((k:Int)<(l.length:Int)))] fun S=>anu (bM _ _ ?_);refine anx S (fun hc6=>?_) (fun hc6=>?_)
 ·refine anZ<|oq _ _<|anV fun _ iZ=>an1<|anV (fun _ eu=>?_);have hlt:=aoe hc6;rcases k with _ | j
  ·have qX:0<l.length:=(by omega);obtain⟨b10,o11,rfl,x16,wG,Ku,EW⟩:=aom h (fun _=>rfl) (0) qX;have S:=S.view0 Ku EW;refine anI S 32 [.idx 0 l.length,.mem 0 0,.idx 0 l.length,.mem 0 0,.dead 28 (.z),.dead 29 (.z),.dead 30 (.z),.dead 31 (.z),.dead 32 (.z),.dead 33 (.z),.dead 34 (.z),.dead 35 (.z),.dead 36 (.z),.dead 37 (.z),.dead 38 (.z),.dead 39 (.z)] [] [(41,.bool (((decide (x16.o<0))||(decide (65536<x16.o)))||false))] trivial (hk:=⟨qX,qX,trivial⟩) fun ac u E9 S=>anu (eu _ _ ?_);refine anx S (fun hc18=>?_) (fun hc18=>?_)
   ·refine anv fun _ iU=>adr S 1 [] [(2,.z)] fun S=>anu<|iU _ _<|an2 ?_;have hh:=hc18;rw[←wG]at hh;have hb:(l[0].o<lY l 0∨65536<l[0].o):=by
     have hl:=hR.2;rw[show lY l 0=0 from rfl]at *;simp at hh hl ⊢;omega
    refine anD S results340 ?_;exact⟨aC (Vh (by omega) hR hb),S.E⟩
   refine anZ<|iZ _ _<|an3<|adr S 3 [] [(3,.i 1)] fun S=>anu ?_;show ∃i',_∧_;have hh:=hc18;rw[←wG]at hh;have hb:¬(l[0].o<lY l 0∨65536<l[0].o):=by
    have hl:=hR.2;rw[show lY l 0=0 from rfl]at *;simp at hh hl ⊢;omega
   exact⟨(0+1),⟨by omega,(Qb (by omega) hR hb),S.sn⟩,by show _-_<_-_; omega⟩
  have acV:(j+1)<l.length:=(by omega);obtain⟨b21,o22,rfl,x27,hx25,akI,akJ⟩:=aom h (fun _=>rfl) ((j+1)) acV;have S:=S.view0 akI akJ;have ahB:j<l.length:=(by omega);obtain⟨x35,ahC,YF,Y6⟩:=Vp.Xl h (fun _=>rfl) (j) ahB;have S:=S.view0 YF Y6;refine anI S 32 [.idx (j+1) l.length,.mem 1 0,.idx (j+1) l.length,.mem 1 0,.idx (j+1) l.length,.mem 1 0,.re 35 (.i (IntKind.i64.wrap (((j+1:Nat):Int)-1))) (.i j),.idx j l.length,.mem 0 0] [] [(41,.bool (((decide (x27.o<0))||(decide (65536<x27.o)))||((decide (0<(((j+1):Nat):Int)))&&(decide (x27.o<x35.o)))))] trivial (hk:=⟨acV,acV,acV,Dp (by omega),ahB,trivial⟩) fun ac u Am S=>anu (eu _ _ ?_);refine anx S (fun vN=>?_) (fun vN=>?_)
  ·refine anv fun _ l7=>adr S 1 [] [(2,.z)] fun S=>anu<|l7 _ _<|an2 ?_;have hh:=vN;rw[←hx25,←ahC]at hh;have hb:(l[(j+1)].o<lY l (j+1)∨65536<l[(j+1)].o):=by
    have hl:=hR.2;rw[Ah (show j<l.length by omega)]at *;simp at hh hl ⊢;omega
   refine anD S results340 ?_;exact⟨aC (Vh (by omega) hR hb),S.E⟩
  refine anZ<|iZ _ _<|an3<|adr S 3 [.re 9 (.i (IntKind.i64.wrap ((((j+1):Nat):Int)+1))) (.i ((j+1)+1:Nat))] [(3,.i ((j+1)+1:Nat))] (hk:=⟨anJ (by omega),trivial⟩) fun S=>anu ?_;show ∃i',_∧_;have hh:=vN;rw[←hx25,←ahC]at hh;have hb:¬(l[(j+1)].o<lY l (j+1)∨65536<l[(j+1)].o):=by
   have hl:=hR.2;rw[Ah (show j<l.length by omega)]at *;simp at hh hl ⊢;omega
  exact⟨((j+1)+1),⟨by omega,(Qb (by omega) hR hb),S.sn⟩,by show _-_<_-_; omega⟩
 refine aod<|eP _ _<|anv fun _ qm=>adr S 9 [] [(2,.bool ((decide (1≤(l.length:Int)))&&(decide ((l.length:Int)≤16))))] fun S=>anu<|qm _ _<|anz S results340 ?_;exact⟨aC (acU (by have:=aoi hc6; omega) hR),S.E⟩
end Go.Proofs.YtapmgonflgahbaaGreatDoor
