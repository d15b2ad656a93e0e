/- Walks of the references on integers and rational numbers: DivMod, reduce, Normalize. -/
import Derived.Test.YtfmkkemfhjkajaaGreatDoorPk4
import Derived.Test.YtfmkkemfhjkajaaGreatDoorRat
import Derived.RegionTactic
import Derived.ChangeAlike
namespace Go.Proofs.YtfmkkemfhjkajaaGreatDoor
open Go.RowKit
variable{α:Type}
set_option linter.unusedVariables false
theorem neg_neg(n1:Bool){a b:Nat}(hb:0<b):((!n1&&decide (0<a))&&decide (0<a/Nat.gcd a b))=negOf n1 true a b:=by
 unfold negOf sgn
 rw[if_neg (show b≠0 by omega)]
 rcases Nat.eq_zero_or_pos a with h | h
 ·subst h; simp
 ·rw[if_neg (show a≠0 by omega)]
  have:decide (0<a)=true:=decide_eq_true h
  rw[this]
  cases n1<;>simp
/-- Three blocks and what is in them. -/
structure Red (w wk:World) (n1 n2:Bool) (v1 v2 g:Value) (b5:Nat):Prop where
 c0:wk.cell? ⟨w.heap.size,0,none⟩=some (.bool n1)
 c1:wk.cell? ⟨w.heap.size,1,none⟩=some v1
 c2:wk.cell? ⟨w.heap.size+1,0,none⟩=some (.bool n2)
 c3:wk.cell? ⟨w.heap.size+1,1,none⟩=some v2
 c4:∀i,i<4→∃u,wk.cell? ⟨w.heap.size+1+1,i,none⟩=some u
 f0:∀i,wk.frozen? ⟨w.heap.size,i,none⟩=false
 f1:∀i,wk.frozen? ⟨w.heap.size+1,i,none⟩=false
 f4:∀i,wk.frozen? ⟨w.heap.size+1+1,i,none⟩=false
 c5:wk.cell? ⟨b5,0,none⟩=some (.bool false)
 c6:wk.cell? ⟨b5,1,none⟩=some g
 lt:w.heap.size+1+1<b5
 l5:b5<wk.heap.size
 bel:Ext w wk
theorem Red.ext{w wk w1:World}{n1 n2:Bool}{v1 v2 g:Value}{b5:Nat}(h:Red w wk n1 n2 v1 v2 g b5)(hb:Ext wk w1):Red w w1 n1 n2 v1 v2 g b5:=by
 obtain⟨h0,h1,h2,h3,h4,g0,g1,hf,h5,h6,h7,h8,h9⟩:=h
 have hs:=hb.size
 refine⟨?_,?_,?_,?_,fun i hi=>?_,fun i=>?_,fun i=>?_,fun i=>?_,?_,?_,h7,by omega,Ext.trans' h9 hb⟩
 ·rw[hb.cell (p:=⟨w.heap.size,0,none⟩) (by simp only; omega)]; exact h0
 ·rw[hb.cell (p:=⟨w.heap.size,1,none⟩) (by simp only; omega)]; exact h1
 ·rw[hb.cell (p:=⟨w.heap.size+1,0,none⟩) (by simp only; omega)]; exact h2
 ·rw[hb.cell (p:=⟨w.heap.size+1,1,none⟩) (by simp only; omega)]; exact h3
 ·rw[hb.cell (p:=⟨w.heap.size+1+1,i,none⟩) (by simp only; omega)]; exact h4 i hi
 ·rw[hb.frozen (p:=⟨w.heap.size,i,none⟩) (by simp only; omega)]; exact g0 i
 ·rw[hb.frozen (p:=⟨w.heap.size+1,i,none⟩) (by simp only; omega)]; exact g1 i
 ·rw[hb.frozen (p:=⟨w.heap.size+1+1,i,none⟩) (by simp only; omega)]; exact hf i
 ·rw[hb.cell (p:=⟨b5,0,none⟩) (by simp only; omega)]; exact h5
 ·rw[hb.cell (p:=⟨b5,1,none⟩) (by simp only; omega)]; exact h6
end Go.Proofs.YtfmkkemfhjkajaaGreatDoor
