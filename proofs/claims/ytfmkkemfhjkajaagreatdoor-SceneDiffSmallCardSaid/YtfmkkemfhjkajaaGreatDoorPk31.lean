/- What Check says of a node hangs on its key alone. No program in sight. Lists of depths as trees: the plain laws of parents, ends, children and ancestors. No program in sight. -/
import Derived.Test.YtfmkkemfhjkajaaGreatDoorPk25
section
namespace Go.Proofs.YtfmkkemfhjkajaaGreatDoor
set_option linter.unusedVariables false
theorem valid_key{p q:PaintD}(h:p.key=q.key):p.valid=q.valid:=by
 obtain⟨k,c,p0,p1,r,sva,svc,st,sp,⟨iw,ih,isa,isc,il⟩,sm,t⟩:=p
 obtain⟨k',c',p0',p1',r',sva',svc',st',sp',⟨iw',ih',isa',isc',il'⟩,sm',t'⟩:=q
 simp only[PaintD.key,ImgD.key,PaintK.mk.injEq,ImgK.mk.injEq]at h
 obtain⟨rfl,rfl,rfl,rfl,rfl,rfl,rfl,⟨rfl,rfl,rfl⟩,rfl,ht⟩:=h
 have hw:∀(b:PaintD),(PaintD.without ⟨k,c,p0,p1,r,sva,svc,st,sp,⟨iw,ih,isa,isc,il⟩,sm,t⟩).eq b=(PaintD.without ⟨k,c,p0,p1,r,sva',svc',st,sp,⟨iw,ih,isa',isc',il⟩,sm,t'⟩).eq b:=by
  intro b
  unfold PaintD.without
  simp only
  cases k==1<;>cases k==2<;>cases k==3<;>cases k==4<;>simp only[cond_true,cond_false,PaintD.only1,PaintD.only2,PaintD.only3,PaintD.only4,PaintD.only5,PaintD.eq]<;>rfl
 unfold PaintD.valid
 simp only[hw,ht]
 rfl
theorem valids_key:∀{l m:List PaintD},l.map PaintD.key=m.map PaintD.key→l.all PaintD.valid=m.all PaintD.valid
 | [],[],_=>rfl
 | [],_::_,h=>by cases h
 | _::_,[],h=>by cases h
 | x::l,y::m,h=>by
  simp only[List.map_cons,List.cons.injEq]at h
  rw[List.all_cons,List.all_cons,valid_key h.1,valids_key h.2]
theorem checkN_key{a b:NodeD}(h:a.key=b.key):a.checkN=b.checkN:=by
 simp only[NodeD.key,StyleD.key,ImgD.key,NodeK.mk.injEq,StyleK.mk.injEq,ImgK.mk.injEq]at h
 obtain⟨h1,h2,h3,h4,h5,h6,h7,h8,h9,h10,h11,h12,h13,⟨s1,s2,s3,s4,s5,s6⟩,h15,⟨i1,i2,i3⟩,h17⟩:=h
 have l1:a.fill.length=b.fill.length:=by have:=congrArg List.length h13; simpa using this
 have l2:a.stroke.length=b.stroke.length:=by have:=congrArg List.length h15; simpa using this
 have hs:∀p:StyleD,a.style.eq p=b.style.eq p:=fun p=>by unfold StyleD.eq; rw[s1,s2,s3,s4,s5,s6]
 have hi:∀m:ImgD,a.img.eq m=b.img.eq m:=fun m=>by unfold ImgD.eq; rw[i1,i2,i3]
 have hb:a.bare=b.bare:=by unfold NodeD.bare; rw[hs,hi,h2,h7,h8,h9,h10,h11,h12,h17,l1,l2]
 have hsv:a.style.valid=b.style.valid:=by unfold StyleD.valid; rw[s1,s2,s3,s4,s5,s6]
 have hiv:a.img.valid=b.img.valid:=by unfold ImgD.valid ImgD.size; rw[i1,i2,i3]
 have hc:a.commonL=b.commonL:=by unfold NodeD.commonL; rw[hb,h1,h2,h3,h4,h5,h6]
 have hsh:a.shapeL=b.shapeL:=by unfold NodeD.shapeL; rw[h11,h12,l1,l2,hsv,hs,valids_key h13,valids_key h15]
 unfold NodeD.checkN NodeD.ownN
 rw[hc,hsh,h2,h8,hiv,h17]
open Classical in
/-- What Check says of a node with this key. -/
noncomputable def NodeK.chk(κ:NodeK):Int:=if h:∃n:NodeD,n.key=κ then h.choose.checkN else 1
theorem chk_key(n:NodeD):n.key.chk=n.checkN:=by
 have h:∃m:NodeD,m.key=n.key:=⟨n,rfl⟩
 unfold NodeK.chk
 rw[dif_pos h]
 exact checkN_key h.choose_spec
theorem codeL_zero:∀{l:List (Bool×Int)},(∀p∈l,p.2≠0)→codeL l=0→∀p∈l,p.1=false
 | [],_,_,p,hp=>by cases hp
 | q::l,h,h0,p,hp=>by
  unfold codeL at h0
  split at h0
  ·exact absurd h0 (h q List.mem_cons_self)
  ·rename_i hq
   rcases List.mem_cons.1 hp with rfl | hp
   ·simpa using hq
   ·exact codeL_zero (fun p hp=>h p (List.mem_cons_of_mem _ hp)) h0 p hp
theorem commonL_codes(n:NodeD):∀p∈n.commonL,p.2≠0:=by
 intro p hp
 simp only[NodeD.commonL,List.mem_cons,List.not_mem_nil,or_false]at hp
 rcases hp with rfl | rfl | rfl | rfl | rfl | rfl
 ·exact(by decide:(2:Int)≠0)
 ·exact(by decide:(6:Int)≠0)
 ·exact(by decide:(5:Int)≠0)
 ·exact(by decide:(9:Int)≠0)
 ·exact(by decide:(10:Int)≠0)
 ·exact(by decide:(17:Int)≠0)
theorem checkN_zero{n:NodeD}(h:n.checkN=0):badL n.commonL=false∧n.ownN=0:=by
 unfold NodeD.checkN at h
 cases hb:badL n.commonL
 ·rw[hb]at h; exact⟨rfl,h⟩
 ·rw[hb,cond_true]at h
  have:=codeL_zero (commonL_codes n) h
  unfold badL at hb
  obtain⟨p,hp,hp2⟩:=List.any_eq_true.1 hb
  rw[this p hp]at hp2
  cases hp2
/-- What a node that Check takes is known for. -/
theorem checkN_facts{n:NodeD}(h:n.checkN=0):1≤n.kind∧n.kind≤3∧1≤n.id∧n.id≤1073741824∧0≤n.depth∧n.depth<8:=by
 have hb:=(checkN_zero h).1
 simp only[badL,NodeD.commonL,List.any_cons,Bool.or_eq_false_iff,decide_eq_false_iff_not]at hb
 obtain⟨⟨h1,h2⟩,⟨⟨⟨h3,h4⟩,h5⟩,h6⟩,_⟩:=hb
 omega
theorem checkN_depth{n:NodeD}(h:n.checkN=0)(d:Int):({n with depth:=d}:NodeD).checkN=if 0≤d∧d<8 then 0 else 6:=by
 obtain⟨hb,ho⟩:=checkN_zero h
 have ho':({n with depth:=d}:NodeD).ownN=0:=ho
 have hcL:({n with depth:=d}:NodeD).commonL=((decide (n.kind<1))||(decide (3<n.kind)),2)::((((decide (n.id<1))||(decide (1073741824<n.id)))||(decide (d<0)))||(decide (8≤d)),6)::n.commonL.drop 2:=rfl
 have hb2:badL (n.commonL.drop 2)=false:=by
  simp only[badL]at hb ⊢
  rw[show n.commonL=n.commonL.take 2++n.commonL.drop 2 from(List.take_append_drop _ _).symm,List.any_append,Bool.or_eq_false_iff]at hb
  exact hb.2
 have hf:=checkN_facts h
 have e1:((decide (n.kind<1))||(decide (3<n.kind)))=false:=by simp; omega
 have e2:((decide (n.id<1))||(decide (1073741824<n.id)))=false:=by simp; omega
 unfold NodeD.checkN
 rw[ho',hcL,e1,e2]
 by_cases hd:0≤d∧d<8
 ·have e3:((false||decide (d<0))||decide (8≤d))=false:=by simp; omega
  rw[if_pos hd,e3]
  unfold badL
  rw[List.any_cons,List.any_cons]
  have:(n.commonL.drop 2).any (·.1)=false:=hb2
  rw[this]
  rfl
 ·have e3:((false||decide (d<0))||decide (8≤d))=true:=by simp; omega
  rw[if_neg hd,e3]
  rfl
theorem NodeK.chk_some{κ:NodeK}(h:κ.chk=0):∃n:NodeD,n.key=κ∧n.checkN=0:=by
 unfold NodeK.chk at h
 split at h
 ·rename_i hx; exact⟨hx.choose,hx.choose_spec,h⟩
 ·cases h
theorem NodeK.chk_facts{κ:NodeK}(h:κ.chk=0):1≤κ.kind∧κ.kind≤3∧1≤κ.id∧κ.id≤1073741824∧0≤κ.depth∧κ.depth<8:=by
 obtain⟨n,rfl,hn⟩:=NodeK.chk_some h
 exact checkN_facts hn
theorem NodeK.chk_depth{κ:NodeK}(h:κ.chk=0)(d:Int):({κ with depth:=d}:NodeK).chk=if 0≤d∧d<8 then 0 else 6:=by
 obtain⟨n,rfl,hn⟩:=NodeK.chk_some h
 rw[show({n.key with depth:=d}:NodeK)=({n with depth:=d}:NodeD).key from rfl,chk_key,checkN_depth hn]
end Go.Proofs.YtfmkkemfhjkajaaGreatDoor
end
section
namespace Go.Proofs.YtfmkkemfhjkajaaGreatDoor
set_option linter.unusedVariables false
/-- Depths of a scene's nodes in their order. -/
structure IsTree (n:Nat) (f:Nat→Int):Prop where
  zero:0<n→f 0=0
  nn:∀k,k<n→0≤f k
  step:∀k,k+1<n→f (k+1)≤f k+1
/-- The last place below k where the depth is d; -1 where there is none. -/
def parTo(f:Nat→Int)(d:Int):Nat→Int
  | 0 => -1
  | j+1=>if f j=d then (j:Int)else parTo f d j
def parN(f:Nat→Int)(k:Nat):Int:=parTo f (f k-1) k
/-- The first place from k on, at most m places on, where the depth is at most d. -/
def finTo(f:Nat→Int)(d:Int):Nat→Nat→Nat
  | 0,k=>k
  | m+1,k=>if d<f k then finTo f d m (k+1)else k
def finN(n:Nat)(f:Nat→Int)(i:Nat):Nat:=finTo f (f i) (n-(i+1)) (i+1)
theorem parTo_some{f:Nat→Int}{d:Int}:∀{k j:Nat},parTo f d k=(j:Int)→j<k∧f j=d∧∀m,j<m→m<k→f m≠d
  | 0,j,h=>by simp[parTo]at h
  | k+1,j,h=>by
    unfold parTo at h
    split at h
    · rename_i e
      obtain rfl:k=j:=by omega
      exact⟨by omega,e,fun m h1 h2=>by omega⟩
    · rename_i e
      obtain⟨h1,h2,h3⟩:=parTo_some h
      refine⟨by omega,h2,fun m hm1 hm2=>?_⟩
      by_cases hk:m=k
      · rw[hk]; exact e
      · exact h3 m hm1 (by omega)
theorem parTo_none{f:Nat→Int}{d:Int}:∀{k:Nat},parTo f d k = -1→∀m,m<k→f m≠d
  | 0,_,m,hm=>by omega
  | k+1,h,m,hm=>by
    unfold parTo at h
    split at h
    · omega
    · rename_i e
      by_cases hk:m=k
      · rw[hk]; exact e
      · exact parTo_none h m (by omega)
theorem parTo_cases(f:Nat→Int)(d:Int):∀k:Nat,parTo f d k = -1∨∃j:Nat,parTo f d k=j
  | 0 => .inl rfl
  | k+1=>by
    unfold parTo
    split
    · exact .inr ⟨k,rfl⟩
    · exact parTo_cases f d k
theorem parTo_at{f:Nat→Int}{d:Int}:∀{k j:Nat},j<k→f j=d→(∀m,j<m→m<k→f m≠d)→parTo f d k=(j:Int)
  | 0,j,h,_,_=>by omega
  | k+1,j,h,h1,h2=>by
    unfold parTo
    by_cases hk:j=k
    · subst hk; rw[if_pos h1]
    · rw[if_neg (h2 k (by omega) (by omega))]
      exact parTo_at (by omega) h1 fun m hm1 hm2=>h2 m hm1 (by omega)
theorem finTo_spec{f:Nat→Int}{d:Int}:∀(m k:Nat),k≤finTo f d m k∧finTo f d m k≤k+m∧(∀j,k≤j→j<finTo f d m k→d<f j)∧(finTo f d m k<k+m→f (finTo f d m k)≤d)
  | 0,k=>by simp[finTo]; intro j h1 h2; omega
  | m+1,k=>by
    unfold finTo
    split
    · rename_i h
      obtain⟨h1,h2,h3,h4⟩:=finTo_spec (f:=f) (d:=d) m (k+1)
      refine⟨by omega,by omega,fun j hj1 hj2=>?_,fun hl=>h4 (by omega)⟩
      by_cases hk:j=k
      · rw[hk]; exact h
      · exact h3 j (by omega) hj2
    · rename_i h
      exact⟨Nat.le_refl _,by omega,fun j h1 h2=>by omega,fun _=>by omega⟩
theorem finN_spec{n i:Nat}{f:Nat→Int}(hi:i<n):i<finN n f i∧finN n f i≤n∧(∀j,i<j→j<finN n f i→f i<f j)∧(finN n f i<n→f (finN n f i)≤f i):=by
  obtain⟨h1,h2,h3,h4⟩:=finTo_spec (f:=f) (d:=f i) (n-(i+1)) (i+1)
  unfold finN
  exact⟨by omega,by omega,fun j hj=>h3 j (by omega),fun h=>h4 (by omega)⟩
theorem finN_at{n i k:Nat}{f:Nat→Int}(hi:i<n)(h1:i<k)(h2:k≤n)(h3:∀j,i<j→j<k→f i<f j)(h4:k<n→f k≤f i):finN n f i=k:=by
  obtain⟨e1,e2,e3,e4⟩:=finN_spec (f:=f) hi
  rcases Nat.lt_trichotomy (finN n f i) k with h | h | h
  · have:=e4 (by omega); have:=h3 _ e1 h; omega
  · exact h
  · have:=h4 (by omega); have:=e3 k h1 h; omega
/-- Between a node and its parent lie nodes at least as deep. -/
theorem IsTree.between{n:Nat}{f:Nat→Int}(T:IsTree n f){k j:Nat}(hk:k<n)(hj:j<k)(hd:f j=f k-1)(hn:∀m,j<m→m<k→f m≠f k-1):∀m,j<m→m<k→f k≤f m:=by
  -- from a node that is less deep, the depths rise by one at most: the depth f k - 1 would come again
  have key:∀q m,m+q=k→j<m→f k≤f m:=by
    intro q
    induction q with
    | zero => intro m h1 h2; obtain rfl : m = k := by omega
              exact Int.le_refl _
    | succ q ih =>
      intro m h1 h2
      have h3:=ih (m+1) (by omega) (by omega)
      have h4:=T.step m (by omega)
      have h5:=hn m h2 (by omega)
      omega
  intro m h1 h2
  exact key (k-m) m (by omega) h1
theorem IsTree.par_none{n:Nat}{f:Nat→Int}(T:IsTree n f){k:Nat}(hk:k<n):parN f k = -1↔f k=0:=by
  constructor
  · intro h
    have hn:=parTo_none h
    -- otherwise some place below has the depth f k - 1
    have key:∀q,q≤k→f k≤f (k-q)∨∃m,m<k∧f m=f k-1:=by
      intro q
      induction q with
      | zero=>intro _; exact .inl (Int.le_refl _)
      | succ q ih =>
        intro hq
        rcases ih (by omega)with h1 | h1
        · have h2:=T.step (k-(q+1)) (by omega)
          rw[show k-(q+1)+1=k-q by omega]at h2
          by_cases h3:f (k-(q+1))=f k-1
          · exact .inr ⟨_,by omega,h3⟩
          · exact .inl (by omega)
        · exact .inr h1
    rcases key k (Nat.le_refl _)with h1 | ⟨m,h1,h2⟩
    · rw[Nat.sub_self,T.zero (by omega)]at h1
      have:=T.nn k hk
      omega
    · exact absurd h2 (hn m h1)
  · intro h
    rcases parTo_cases f (f k-1) k with h1 | ⟨j,h1⟩
    · exact h1
    · obtain⟨h2,h3,_⟩:=parTo_some h1
      have:=T.nn j (by omega)
      omega
theorem IsTree.par_some{n:Nat}{f:Nat→Int}(T:IsTree n f){k i:Nat}(hk:k<n):parN f k=(i:Int)↔i<k∧k<finN n f i∧f k=f i+1:=by
  constructor
  · intro h
    obtain⟨h1,h2,h3⟩:=parTo_some h
    have hb:=T.between hk h1 h2 h3
    have hi:i<n:=by omega
    obtain⟨e1,e2,e3,e4⟩:=finN_spec (f:=f) hi
    refine⟨h1,?_,by omega⟩
    by_cases h4:k<finN n f i
    · exact h4
    · exfalso
      have h5:=e4 (by omega)
      by_cases h6:finN n f i=k
      · rw[h6]at h5; omega
      · have:=hb _ e1 (by omega); omega
  · rintro⟨h1,h2,h3⟩
    have hi:i<n:=by omega
    obtain⟨e1,e2,e3,e4⟩:=finN_spec (f:=f) hi
    refine parTo_at h1 (by omega) fun m h4 h5=>?_
    have:=e3 m h4 (by omega)
    omega
theorem IsTree.par_lt{f:Nat→Int}{k:Nat}{i:Nat}(h:parN f k=(i:Int)):i<k∧f i=f k-1:=⟨(parTo_some h).1,(parTo_some h).2.1⟩
/-- The nodes from the top level down to node k: by parents. -/
def ancP(f:Nat→Int):Nat→Nat→List Nat
  | 0,_=>[]
  | m+1,k=>(if parN f k<0 then []else ancP f m (parN f k).toNat)++[k]
/-- The node of depth d from which k comes. -/
def ancAt(f:Nat→Int)(d:Int):Nat→Nat→Nat
  | 0,k=>k
  | m+1,k=>if d<f k then ancAt f d m (parN f k).toNat else k
theorem IsTree.par_pos{n:Nat}{f:Nat→Int}(T:IsTree n f){k:Nat}(hk:k<n)(h:0<f k):∃j:Nat,parN f k=j∧j<k∧f j=f k-1:=by
  rcases parTo_cases f (f k-1) k with h1 | ⟨j,h1⟩
  · have:=(T.par_none hk).1 h1; omega
  · exact⟨j,h1,IsTree.par_lt h1⟩
theorem IsTree.anc_eq{n:Nat}{f:Nat→Int}(T:IsTree n f):∀(m k:Nat),k<n→f k<m→ancP f m k=(List.range ((f k).toNat+1)).map fun d:Nat=>ancAt f d (f k).toNat k
  | 0,k,hk,h=>by have:=T.nn k hk; omega
  | m+1,k,hk,h=>by
    unfold ancP
    rcases Int.lt_or_le 0 (f k)with h0 | h0
    · obtain⟨j,h1,h2,h3⟩:=T.par_pos hk h0
      rw[h1,if_neg (by omega),Int.toNat_natCast,T.anc_eq m j (by omega) (by omega)]
      have e:(f k).toNat=(f j).toNat+1:=by have:=T.nn j (by omega); omega
      rw[e,List.range_succ (n:=(f j).toNat+1),List.map_append,List.map_singleton]
      congr 1
      · refine List.map_congr_left fun d hd=>?_
        have hd:=List.mem_range.1 hd
        rw[show ancAt f d ((f j).toNat+1) k=ancAt f d (f j).toNat j from by
          show(if (d:Int)<f k then ancAt f d (f j).toNat (parN f k).toNat else k)=_
          rw[if_pos (by omega),h1,Int.toNat_natCast]]
      · have hx:ancAt f (((f j).toNat+1:Nat):Int) ((f j).toNat+1) k=k:=by
          show(if (((f j).toNat+1:Nat):Int)<f k then _ else k)=k
          rw[if_neg (by omega)]
        rw[hx]
    · have hz:f k=0:=by have:=T.nn k hk; omega
      rw[(T.par_none hk).2 hz,if_pos (by decide),hz]
      simp[ancAt]
end Go.Proofs.YtfmkkemfhjkajaaGreatDoor
end
