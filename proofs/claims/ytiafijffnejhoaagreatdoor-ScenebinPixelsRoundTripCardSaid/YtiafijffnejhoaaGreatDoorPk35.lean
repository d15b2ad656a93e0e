/- Package scene: questions about places; equality. Copies -/
import Derived.Test.YtiafijffnejhoaaGreatDoorPk34
import Derived.Test.YtiafijffnejhoaaGreatDoorPk33
import Derived.Test.YtiafijffnejhoaaGreatDoorPk32
import Derived.Test.YtiafijffnejhoaaGreatDoorPk24
import Derived.Test.YtiafijffnejhoaaGreatDoorPixSp
import Derived.Test.YtiafijffnejhoaaGreatDoorNatW1
set_option linter.unusedVariables false
namespace Go.Proofs.YtiafijffnejhoaaGreatDoor
section
open Go.RowKit
variable{α:Type}{K:Nat}
noncomputable def aY.index(s:aY)(id:Int):Int:=if s.valid=true then YT s.ns id else -1
noncomputable def aY.has(s:aY)(i:Int):Bool:=(decide (0≤i)&&decide (i<(s.ns.length:Int)))&&s.valid
noncomputable def aY.endOf(s:aY)(i:Int):Int:=if s.has i=true then (iW s.ns i.toNat:Int)else -1
theorem dZ.YR{w w':World}{a b:aB}(h:dZ K w a)(h':dZ K w' b):a.YR b=decide (a.key=b.key):=Xo h.nrm h'.nrm
theorem Kv(c d:aO):(((c.r.toNat:Int)==d.r.toNat)&&(((c.g.toNat:Int)==d.g.toNat)&&(((c.b.toNat:Int)==d.b.toNat)&&((c.a.toNat:Int)==d.a.toNat))))=decide (c=d):=by
 rw[aif];simp only[ahD,ahu,Fb,ahK];exact Nw
theorem acW(a b c d e f g h:Int)(w:World):(binOp .neq 38 (.agg #[.int .u8 a,.int .u8 b,.int .u8 c,.int .u8 d]) (.agg #[.int .u8 e,.int .u8 f,.int .u8 g,.int .u8 h])).run Tryz.prog w = .ok (.bool (!((a==e)&&((b==f)&&((c==g)&&(d==h)))))) w:=by
 simp[go_sem];(repeat' split)<;>simp_all
theorem aaM(c d:aO)(w:World):(binOp .neq 38 (.agg c.cells.toArray) (.agg d.cells.toArray)).run Tryz.prog w = .ok (.bool (!decide (c=d))) w:=by
 rw[←Kv]; exact acW ..
theorem aaN{l m:List aB}{k:Nat}(hk:l.length≤k)(h:l.length=m.length)(hR:(keys l).take k=(keys m).take k):true=decide (keys l=keys m):=by
 rw[ahV (by simpa using hk),ahV (by simpa using (show m.length≤k by omega))]at hR;simp[hR]
theorem Xt{l m:List aB}{k:Nat}(h1:k<l.length)(h2:k<m.length)(hR:(keys l).take k=(keys m).take k){x y:aB}(hx:l[k]=x)(hy:m[k]=y)(h:(!decide (x.key=y.key))=false):(keys l).take (k+1)=(keys m).take (k+1):=by
 rw[ahM (by simpa using h1),ahM (by simpa using h2),hR,yj h1 hx,yj h2 hy];simp at h;rw[h]
theorem acX{l m:List aB}{k:Nat}(h1:k<l.length)(h2:k<m.length){x y:aB}(hx:l[k]=x)(hy:m[k]=y)(h:(!decide (x.key=y.key))=true):false=decide (keys l=keys m):=by
 symm;rw[aiu];intro e;have:=ahm (·[k]?) e;simp only[keys,List.getElem?_map,List.getElem?_eq_getElem h1,List.getElem?_eq_getElem h2,hx,hy,ahW,ahd]at this;simp[this]at h
theorem acY{s t:dH}(h:((((s.w) != t.w)||((s.h) != t.h))||(!decide (s.bg=t.bg))||((s.ns.length:Int) != (t.ns.length:Int)))=true):false=decide (s.key=t.key):=by
 symm;rw[aiu];intro e;simp only[dH.key,aY.mk.injEq]at e;have hl:=ahm List.length e.2.2.2;simp at hl;simp[e.1,e.2.1,e.2.2.1,hl]at h
theorem Um{s t:dH}(h:((((s.w) != t.w)||((s.h) != t.h))||(!decide (s.bg=t.bg))||((s.ns.length:Int) != (t.ns.length:Int)))=false):s.ns.length=t.ns.length:=by
 simp at h; omega
theorem YV{s t:dH}{b:Bool}(h:((((s.w) != t.w)||((s.h) != t.h))||(!decide (s.bg=t.bg))||((s.ns.length:Int) != (t.ns.length:Int)))=false)(hb:b=decide (keys s.ns=keys t.ns)):b=decide (s.key=t.key):=by
 rw[hb];simp at h;simp[dH.key,h]
theorem Xu{w:World}{a b:aB}(h:dZ K w a)(h':dZ K w b):Calls Tryz.prog 78 #[a.v,b.v] w fun e w'=>e = .returned (.bool (a.key=b.key))∧Ext w w':=by
 rw[←h.YR h']; exact CW h h'
set_option maxRecDepth 100000 in
set_option maxHeartbeats 1600000 in
theorem Iy{w:World}{s:dH}(h:mg K w s)(hg:dV w) :
  Calls Tryz.prog 30 #[s.v] w fun e w'=>e = .returned (.bool s.key.valid)∧Ext w w':=by
 skip;refine agX Tryz.func30 Tryz.ntmps30 fun ac S=>agS fun _ aX=>agT S 1 s.cells fun ac u b2 E3 hb4 S=>adr S 1 [] [(2,.bool false)] fun S=>agR<|aX _ _<|agS fun _ dM=>adr S 1 [.mem 0 0] [(6,s.v)] fun S=>ag0 S 7 (Iw (h.below S.E) (hg.below S.E)) fun ac u E6 S=>adr S 5 [] [(3,.i s.key.chk.1)] fun S=>agR<|dM _ _<|agS fun _ jf=>adr S 3 [] [(2,.bool ((s.key.chk.1)==0))] fun S=>agR<|jf _ _<|agV S Tryz.results30 ?_;exact⟨rfl,S.E⟩
end
section
open Go.RowKit
variable{α:Type}{K:Nat}
theorem TS:lC Tryz.prog 22 74 (.agg #[.int .u8 0,.int .u8 0,.int .u8 0,.int .u8 0]) 4 4:=⟨Tryz.underlying22,info_parts (by kernel_rfl),rfl,by decide⟩
def Cp(e:TypeId)(k:Nat)(f:α→List Value)(base:Nat)(v:Value)(L:List α)(w:World):Prop:=Sx.Jp base (Sx.ET e k f base v L) w
theorem Cp.ext{e:TypeId}{k:Nat}{f:α→List Value}{base:Nat}{v:Value}{L:List α}{w w':World}(h:Cp e k f base v L w)(hE:Ext w w'):Cp e k f base v L w':=Sx.On.ext h hE
theorem Cp.mono{e:TypeId}{k:Nat}{f:α→List Value}{base b0:Nat}{v:Value}{L:List α}{w:World}(h:Cp e k f base v L w)(hb:b0≤base):Cp e k f b0 v L w:=Sx.On.imp (Sx.Jp.le h hb) fun _ h=>h.le hb
theorem Cp.shape{e:TypeId}{k:Nat}{f:α→List Value}{base:Nat}{v:Value}{L:List α}{w:World}(h:Cp e k f base v L w):∃a c,v = .slice a L.length c:=(ai7 h).1.shape
theorem Jp.ch{base b:Nat}{F:World→Prop}{w w':World}(h:Sx.Jp base F w)(hc:Ch b w w')(hb:b<base):Sx.Jp base F w':=fun w2 hs hk =>
 h w2 (ahC hc.size hs) fun k hk1 hk2=>(hk k (ahG hk1 hc.size) hk2).trans (hc.block k hk1 fun e=>by simp only[ahd]at e; omega)
theorem fA{f:α→Value}{w:World}{v:Value}{l:List α}(h:aK 1 (fun x=>[f x]) w v l):bU f w v l:=by
 obtain⟨a,cap,hv,hm,h⟩:=h;refine⟨a,cap,hv,hm,?_⟩;rcases h with h | ⟨b,o,ha,hlt,hl,hc⟩
 ·exact .inl h
 exact .inr ⟨b,o,ha,hlt,hl,fun i hi=>by have:=hc i hi 0 (by omega); simpa using this⟩
def bD.vW(base:Nat)(r:bD)(w:World):Prop:=r.ok w∧Sx.Ty 89 1 base r.s1 r.l1.length w∧Sx.Ty 89 1 base r.s2 r.l2.length w
def aU.vW(base:Nat)(t:aU)(w:World):Prop:=t.a.vW base w∧t.b.vW base w∧t.c.vW base w∧t.d.vW base w∧t.e.vW base w∧t.f.vW base w
def au.vW(base:Nat)(p:au)(w:World):Prop:=p.ok w∧Sx.Ty 166 5 base p.sv p.stops.length w∧Sx.Ty 74 4 base p.img.s p.img.l.length w∧p.t.vW base w
def lq(base:Nat)(w:World)(v:Value)(l:List au):Prop:=Sx.ET 135 40 au.cells base v l w∧∀p∈l,p.vW base w
def aB.vW(base:Nat)(n:aB)(w:World):Prop:=n.ok w∧n.t.vW base w∧Sx.Ty 129 7 base n.cs n.clip.length w∧Sx.Ty 129 7 base n.ps n.path.length w∧lq base w n.fs n.fill∧lq base w n.ss n.stroke∧Sx.Ty 3 1 base n.style.s n.style.dash.length w∧Sx.Ty 74 4 base n.img.s n.img.l.length w
theorem bD.vW.le{base b0:Nat}{r:bD}{w:World}(h:r.vW base w)(hb:b0≤base):r.vW b0 w:=⟨h.1,h.2.1.le hb,h.2.2.le hb⟩
theorem aU.vW.le{base b0:Nat}{t:aU}{w:World}(h:t.vW base w)(hb:b0≤base):t.vW b0 w:=⟨h.1.le hb,h.2.1.le hb,h.2.2.1.le hb,h.2.2.2.1.le hb,h.2.2.2.2.1.le hb,h.2.2.2.2.2.le hb⟩
theorem aU.vW.ok{base:Nat}{t:aU}{w:World}(h:t.vW base w):t.ok w:=⟨h.1.1,h.2.1.1,h.2.2.1.1,h.2.2.2.1.1,h.2.2.2.2.1.1,h.2.2.2.2.2.1⟩
theorem au.vW.le{base b0:Nat}{p:au}{w:World}(h:p.vW base w)(hb:b0≤base):p.vW b0 w:=⟨h.1,h.2.1.le hb,h.2.2.1.le hb,h.2.2.2.le hb⟩
theorem lq.le{base b0:Nat}{w:World}{v:Value}{l:List au}(h:lq base w v l)(hb:b0≤base):lq b0 w v l:=⟨h.1.le hb,fun p hp=>(h.2 p hp).le hb⟩
theorem lq.ok{base:Nat}{w:World}{v:Value}{l:List au}(h:lq base w v l):iQ w v l:=⟨h.1.1,fun p hp=>(h.2 p hp).1⟩
abbrev bD.cp (base:Nat)(r:bD)(w:World):Prop:=Sx.Jp base (fun W=>r.vW base W) w
abbrev aU.cp (base:Nat)(t:aU)(w:World):Prop:=Sx.Jp base (fun W=>t.vW base W) w
end
section
open Go.RowKit
variable{α:Type}{K:Nat}
def au.re(x:au)(a1:Option Addr)(c1:Nat)(a2:Option Addr)(c2:Nat)(t:aU):au:=⟨x.kind,x.color,x.p0,x.p1,x.bK,a1,c1,x.stops,x.spread,⟨x.img.w,x.img.h,a2,c2,x.img.l⟩,x.dw,t⟩
abbrev aB.cp (base:Nat)(n:aB)(w:World):Prop:=Sx.Jp base (fun W=>n.vW base W) w
end
section
open Go.RowKit
variable{α:Type}{K:Nat}
def aB.afl(K:Nat)(n:aB):Prop:=n.t.fit K∧(∀p∈n.fill,p.t.fit K)∧(∀p∈n.stroke,p.t.fit K)∧1≤K∧K≤10000
end
section
open Go.RowKit
variable{α:Type}{K:Nat}
theorem aaO{base b0:Nat}{n:aB}{w:World}(h:n.vW base w)(hb:b0≤base):n.vW b0 w:=⟨h.1,h.2.1.le hb,h.2.2.1.le hb,h.2.2.2.1.le hb,h.2.2.2.2.1.le hb,h.2.2.2.2.2.1.le hb,h.2.2.2.2.2.2.1.le hb,h.2.2.2.2.2.2.2.le hb⟩
def aaP(base:Nat)(v:Value)(l:List aB)(w:World):Prop:=Sx.ET 61 47 aB.cells base v l w∧∀n∈l,n.vW base w
abbrev tV (base:Nat)(v:Value)(l:List aB)(w:World):Prop:=Sx.Jp base (aaP base v l) w
structure dH.own (base:Nat) (m:dH) (w:World):Prop where
 row:w.ownsRow base 61 47 m.s m.ns.length (m.ns.flatMap aB.cells)
 nodes:Sx.On (fun i=>base≤i∧m.s.ownBlock≠some i) (fun W=>∀n∈m.ns,n.vW base W) w
theorem dH.own.cp{base:Nat}{m:dH}{w:World}(h:m.own base w):tV base m.s m.ns w:=Sx.On.and (Sx.S9 (fun _=>rfl) h.row rfl rfl) (h.nodes.mono fun _ h=>h.1)
theorem tV.ok{base:Nat}{v:Value}{l:List aB}{w:World}(h:tV base v l w)(hf:∀n∈l,n.afl K):lF K w v l:=⟨(ai7 h).1.1,fun n hn=>⟨((ai7 h).2 n hn).1,hf n hn⟩⟩
theorem tV.le{base b0:Nat}{v:Value}{l:List aB}{w:World}(h:tV base v l w)(hb:b0≤base):tV b0 v l w:=Sx.On.imp (Sx.Jp.le h hb) fun _ h=>⟨h.1.le hb,fun n hn=>aaO (h.2 n hn) hb⟩
theorem _root_.Go.Sx.qY.base{b0 b1:Nat}{A:List Value}{sh:Option Nat}{v:Value}{w:World}(h:Sx.qY b1 A sh v w)(hb:b0≤b1):Sx.qY b0 A sh v w:=by
 obtain⟨b,e,h1,h2⟩:=h;exact⟨b,e,ahC hb h1,h2⟩
end
section
open Go.RowKit
variable{α:Type}{K:Nat}
abbrev OwnB (base:Nat)(w:World)(v:Value)(l:List UInt8):Prop:=w.ownsRow base 5 1 v l.length (l.map fO)
theorem ND(l:List UInt8):l.flatMap (fun n:UInt8=>[fO n])=l.map fO:=by induction l<;>simp_all
theorem rowB{base:Nat}{w:World}{v:Value}{l:List UInt8}(h:OwnB base w v l):aK 1 (fun n:UInt8=>[fO n]) w v l:=ai7 (Sx.wR (f:=fun n:UInt8=>[fO n]) (L:=l) (fun _=>rfl) h rfl (ND l).symm)
theorem Kw{base:Nat}{w:World}{v:Value}{l:List UInt8}(h:OwnB base w v l):eX w 1 v l.length (l.map fO):=by
 have:=Sx.Tc (rowB h) (fun _=>rfl) (fun _=>rfl);rwa [ND]at this
theorem yu{base:Nat}{w:World}{v:Value}{l:List UInt8}(h:OwnB base w v l):bZ w v l:=fA (rowB h)
theorem wrap_u64{n:Nat}(h:n<18446744073709551616):Value.int .u64 (IntKind.u64.wrap (n:Int)) = .int .u64 (n:Int):=by
 congr 1;rw[ah6];omega
end
end Go.Proofs.YtiafijffnejhoaaGreatDoor
