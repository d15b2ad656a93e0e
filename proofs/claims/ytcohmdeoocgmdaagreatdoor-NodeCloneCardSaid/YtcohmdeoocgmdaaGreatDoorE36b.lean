/- Equality of nodes: the references. -/
import Derived.Test.YtcohmdeoocgmdaaGreatDoorE36a
set_option maxHeartbeats 3200000
set_option maxRecDepth 100000
namespace Go.Proofs.YtcohmdeoocgmdaaGreatDoor
open Go.RowKit
variable {α : Type} {K : Nat}
set_option linter.unusedVariables false
theorem r13Equal_any {w : World} {v u : Value} {l m : List SegD} (h : IsRowN 7 SegD.cells w v l) (h' : IsRowN 7 SegD.cells w u m) :
  Calls Tryz.prog 49 #[v, u] w fun e w' => e = .returned (.bool (decide (l = m))) ∧ Ext w w' := by
 obtain ⟨a, cap, rfl⟩ := h.shape
 obtain ⟨d, cap', rfl⟩ := h'.shape
 have hmax : l.length ≤ 9223372036854775807 := h.len
 refine Sx.enter Tryz.func49 Tryz.ntmps49 fun ac S => Sx.seqP fun _ κ1 => Sx.run S 1 [] [(4, .bool false)] fun ac S => Sx.done <| κ1 _ _ <| wp_seq_k fun _ κ2 => Sx.seqP fun _ κ3 => Sx.run S 5 [] [(10, .bool ((((l.length : Nat) : Int)) != ((m.length : Nat) : Int)))] fun ac S => Sx.done (κ3 _ _ ?_)
 refine Sx.cond S (fun hc4 => ?_) (fun hc4 => ?_)
 ·refine Sx.seqP fun _ κ5 => Sx.run S 1 [] [(4, .bool false)] fun ac S => Sx.done <| κ5 _ _ <| Vp.rt ?_
  refine Sx.ret1 S Tryz.results49 ?_
  exact ⟨ret_bool (rows_ne_len hc4), S.E⟩
 ·refine wp_skip <| κ2 _ _ <| wp_seq_k fun _ κ6 => Sx.seqP fun _ κ7 => Sx.run S 1 [] [(5, .int .i64 0)] fun ac S => Sx.done <| κ7 _ _ <| wp_block ?_
  refine Vp.loop (ι := Nat) (fun p a' w' => p ≤ l.length ∧ (l.take p = m.take p) ∧ Sx.St w a' w' 26 [(0, .slice a l.length cap), (1, .slice d m.length cap'), (4, .bool false), (5, .int .i64 ((p : Nat) : Int))] [] []) (fun p => l.length - p) (0) ⟨Nat.zero_le _, rfl, (S.sub [(0, .slice a l.length cap), (1, .slice d m.length cap'), (4, .bool false), (5, .int .i64 ((0 : Nat) : Int))]).noviews⟩ ?_
  rintro k ac u hI
  try dsimp only at hI
  obtain ⟨hk, hR, S⟩ := hI
  refine wp_seq_k fun _ κ8 => Sx.seqP fun _ κ9 => Sx.run S 4 [] [(14, .bool (decide (((k : Nat) : Int) < ((l.length : Nat) : Int))))] fun ac S => Sx.done (κ9 _ _ ?_)
  refine Sx.cond S (fun hc10 => ?_) (fun hc10 => ?_)
  ·refine wp_skip <| κ8 _ _ <| wp_seq_k fun _ κ11 => wp_block <| wp_seq_k (fun _ κ12 => ?_)
   have lt19 : k < l.length := by have := of_decide_eq_true hc10; omega
   obtain ⟨b14, o15, c16, hv, hb21, hr17⟩ := Vp.rowN_range2 h (fun _ => rfl) (k) lt19
   simp only [Value.slice.injEq, true_and] at hv
   obtain ⟨rfl, rfl⟩ := hv
   obtain ⟨x20, hx18⟩ : ∃ z, l[k] = z := ⟨_, rfl⟩
   rw [hx18] at hr17
   have S := S.view0 hb21 hr17
   have lt27 : k < m.length := by have := (of_len hc4); have := of_decide_eq_true hc10; omega
   obtain ⟨b22, o23, c24, hv, hb29, hr25⟩ := Vp.rowN_range2 h' (fun _ => rfl) (k) lt27
   simp only [Value.slice.injEq, true_and] at hv
   obtain ⟨rfl, rfl⟩ := hv
   obtain ⟨y28, hx26⟩ : ∃ z, m[k] = z := ⟨_, rfl⟩
   rw [hx26] at hr25
   have S := S.view0 hb29 hr25
   refine Sx.draw S 9 [.idx k l.length, .mem 1 0, .idx k m.length, .mem 0 0, .cmp .neq 74 (.tmp 20) (.tmp 24) (.agg #[.int .i64 x20.verb, .int .i64 x20.a.x, .int .i64 x20.a.y, .int .i64 x20.b.x, .int .i64 x20.b.y, .int .i64 x20.c.x, .int .i64 x20.c.y]) (.agg #[.int .i64 y28.verb, .int .i64 y28.a.x, .int .i64 y28.a.y, .int .i64 y28.b.x, .int .i64 y28.b.y, .int .i64 y28.c.x, .int .i64 y28.c.y]) (.bool (!((x20.verb == y28.verb) && ((x20.a.x == y28.a.x) && ((x20.a.y == y28.a.y) && ((x20.b.x == y28.b.x) && ((x20.b.y == y28.b.y) && ((x20.c.x == y28.c.x) && (x20.c.y == y28.c.y)))))))))] [] [(25, .bool (!((x20.verb == y28.verb) && ((x20.a.x == y28.a.x) && ((x20.a.y == y28.a.y) && ((x20.b.x == y28.b.x) && ((x20.b.y == y28.b.y) && ((x20.c.x == y28.c.x) && (x20.c.y == y28.c.y)))))))))] trivial (hk := ⟨lt19, lt27, Sx.cmp_agg (fun _ => neSeg ..) (by kernel_rfl), trivial⟩) fun ac u E13 S => Sx.done (κ12 _ _ ?_)
   refine Sx.cond S (fun hc30 => ?_) (fun hc30 => ?_)
   ·refine Sx.seqP fun _ κ31 => Sx.run S 1 [] [(4, .bool false)] fun ac S => Sx.done <| κ31 _ _ <| Vp.rt ?_
    refine Sx.ret1 S Tryz.results49 ?_
    exact ⟨ret_bool (rows_ne lt19 lt27 (fun e => by have hq := hc30; rw [hx18, hx26] at e; subst e; simp at hq)), S.E⟩
   ·refine wp_skip <| κ11 _ _ <| Vp.region <| Sx.run S 3 [.re 16 (.int .i64 (IntKind.i64.wrap (((k : Nat) : Int) + 1))) (.int .i64 (((k + 1) : Nat) : Int))] [(5, .int .i64 (((k + 1) : Nat) : Int))] (hk := ⟨Sx.wrap_succ (by omega), trivial⟩) fun ac S => Sx.done ?_
    show ∃ i', _ ∧ _
    exact ⟨(k + 1), ⟨by omega, (rows_step lt19 lt27 hR (by rw [hx18, hx26]; exact eq_Seg hc30)), (S.sub [(0, .slice (some ⟨b14, o15, none⟩) l.length cap), (1, .slice (some ⟨b22, o23, none⟩) m.length cap'), (4, .bool false), (5, .int .i64 (((k + 1) : Nat) : Int))]).noviews⟩, by show _ - _ < _ - _; omega⟩
  ·refine wp_exit <| κ6 _ _ <| Sx.seqP fun _ κ32 => Sx.run S 1 [] [(4, .bool true)] fun ac S => Sx.done <| κ32 _ _ <| Vp.rt ?_
   refine Sx.ret1 S Tryz.results49 ?_
   exact ⟨ret_bool (rows_eq (by have := of_decide_eq_false hc10; omega) (of_len hc4) hR), S.E⟩
theorem r31Same_any {w : World} {v u : Value} {l m : List StopD} (h : IsRowN 5 StopD.cells w v l) (h' : IsRowN 5 StopD.cells w u m) :
  Calls Tryz.prog 139 #[v, u] w fun e w' => e = .returned (.bool (decide (l = m))) ∧ Ext w w' := by
 obtain ⟨a, cap, rfl⟩ := h.shape
 obtain ⟨d, cap', rfl⟩ := h'.shape
 have hmax : l.length ≤ 9223372036854775807 := h.len
 refine Sx.enter Tryz.func139 Tryz.ntmps139 fun ac S => Sx.seqP fun _ κ1 => Sx.run S 1 [] [(4, .bool false)] fun ac S => Sx.done <| κ1 _ _ <| wp_seq_k fun _ κ2 => Sx.seqP fun _ κ3 => Sx.run S 5 [] [(10, .bool ((((l.length : Nat) : Int)) != ((m.length : Nat) : Int)))] fun ac S => Sx.done (κ3 _ _ ?_)
 refine Sx.cond S (fun hc4 => ?_) (fun hc4 => ?_)
 ·refine Sx.seqP fun _ κ5 => Sx.run S 1 [] [(4, .bool false)] fun ac S => Sx.done <| κ5 _ _ <| Vp.rt ?_
  refine Sx.ret1 S Tryz.results139 ?_
  exact ⟨ret_bool (rows_ne_len hc4), S.E⟩
 ·refine wp_skip <| κ2 _ _ <| wp_seq_k fun _ κ6 => Sx.seqP fun _ κ7 => Sx.run S 1 [] [(5, .int .i64 0)] fun ac S => Sx.done <| κ7 _ _ <| wp_block ?_
  refine Vp.loop (ι := Nat) (fun p a' w' => p ≤ l.length ∧ (l.take p = m.take p) ∧ Sx.St w a' w' 26 [(0, .slice a l.length cap), (1, .slice d m.length cap'), (4, .bool false), (5, .int .i64 ((p : Nat) : Int))] [] []) (fun p => l.length - p) (0) ⟨Nat.zero_le _, rfl, (S.sub [(0, .slice a l.length cap), (1, .slice d m.length cap'), (4, .bool false), (5, .int .i64 ((0 : Nat) : Int))]).noviews⟩ ?_
  rintro k ac u hI
  try dsimp only at hI
  obtain ⟨hk, hR, S⟩ := hI
  refine wp_seq_k fun _ κ8 => Sx.seqP fun _ κ9 => Sx.run S 4 [] [(14, .bool (decide (((k : Nat) : Int) < ((l.length : Nat) : Int))))] fun ac S => Sx.done (κ9 _ _ ?_)
  refine Sx.cond S (fun hc10 => ?_) (fun hc10 => ?_)
  ·refine wp_skip <| κ8 _ _ <| wp_seq_k fun _ κ11 => wp_block <| wp_seq_k (fun _ κ12 => ?_)
   have lt19 : k < l.length := by have := of_decide_eq_true hc10; omega
   obtain ⟨b14, o15, c16, hv, hb21, hr17⟩ := Vp.rowN_range2 h (fun _ => rfl) (k) lt19
   simp only [Value.slice.injEq, true_and] at hv
   obtain ⟨rfl, rfl⟩ := hv
   obtain ⟨x20, hx18⟩ : ∃ z, l[k] = z := ⟨_, rfl⟩
   rw [hx18] at hr17
   have S := S.view0 hb21 hr17
   have lt27 : k < m.length := by have := (of_len hc4); have := of_decide_eq_true hc10; omega
   obtain ⟨b22, o23, c24, hv, hb29, hr25⟩ := Vp.rowN_range2 h' (fun _ => rfl) (k) lt27
   simp only [Value.slice.injEq, true_and] at hv
   obtain ⟨rfl, rfl⟩ := hv
   obtain ⟨y28, hx26⟩ : ∃ z, m[k] = z := ⟨_, rfl⟩
   rw [hx26] at hr25
   have S := S.view0 hb29 hr25
   refine Sx.draw S 9 [.idx k l.length, .mem 1 0, .idx k m.length, .mem 0 0, .cmp .neq 102 (.tmp 20) (.tmp 24) (.agg #[.int .i64 x20.o, .int .u8 (x20.c.r.toNat : Int), .int .u8 (x20.c.g.toNat : Int), .int .u8 (x20.c.b.toNat : Int), .int .u8 (x20.c.a.toNat : Int)]) (.agg #[.int .i64 y28.o, .int .u8 (y28.c.r.toNat : Int), .int .u8 (y28.c.g.toNat : Int), .int .u8 (y28.c.b.toNat : Int), .int .u8 (y28.c.a.toNat : Int)]) (.bool (!((x20.o == y28.o) && (((x20.c.r.toNat : Int) == (y28.c.r.toNat : Int)) && (((x20.c.g.toNat : Int) == (y28.c.g.toNat : Int)) && (((x20.c.b.toNat : Int) == (y28.c.b.toNat : Int)) && ((x20.c.a.toNat : Int) == (y28.c.a.toNat : Int))))))))] [] [(25, .bool (!((x20.o == y28.o) && (((x20.c.r.toNat : Int) == (y28.c.r.toNat : Int)) && (((x20.c.g.toNat : Int) == (y28.c.g.toNat : Int)) && (((x20.c.b.toNat : Int) == (y28.c.b.toNat : Int)) && ((x20.c.a.toNat : Int) == (y28.c.a.toNat : Int))))))))] trivial (hk := ⟨lt19, lt27, Sx.cmp_agg (fun _ => neStop ..) (by kernel_rfl), trivial⟩) fun ac u E13 S => Sx.done (κ12 _ _ ?_)
   refine Sx.cond S (fun hc30 => ?_) (fun hc30 => ?_)
   ·refine Sx.seqP fun _ κ31 => Sx.run S 1 [] [(4, .bool false)] fun ac S => Sx.done <| κ31 _ _ <| Vp.rt ?_
    refine Sx.ret1 S Tryz.results139 ?_
    exact ⟨ret_bool (rows_ne lt19 lt27 (fun e => by have hq := hc30; rw [hx18, hx26] at e; subst e; simp at hq)), S.E⟩
   ·refine wp_skip <| κ11 _ _ <| Vp.region <| Sx.run S 3 [.re 16 (.int .i64 (IntKind.i64.wrap (((k : Nat) : Int) + 1))) (.int .i64 (((k + 1) : Nat) : Int))] [(5, .int .i64 (((k + 1) : Nat) : Int))] (hk := ⟨Sx.wrap_succ (by omega), trivial⟩) fun ac S => Sx.done ?_
    show ∃ i', _ ∧ _
    exact ⟨(k + 1), ⟨by omega, (rows_step lt19 lt27 hR (by rw [hx18, hx26]; exact eq_Stop hc30)), (S.sub [(0, .slice (some ⟨b14, o15, none⟩) l.length cap), (1, .slice (some ⟨b22, o23, none⟩) m.length cap'), (4, .bool false), (5, .int .i64 (((k + 1) : Nat) : Int))]).noviews⟩, by show _ - _ < _ - _; omega⟩
  ·refine wp_exit <| κ6 _ _ <| Sx.seqP fun _ κ32 => Sx.run S 1 [] [(4, .bool true)] fun ac S => Sx.done <| κ32 _ _ <| Vp.rt ?_
   refine Sx.ret1 S Tryz.results139 ?_
   exact ⟨ret_bool (rows_eq (by have := of_decide_eq_false hc10; omega) (of_len hc4) hR), S.E⟩
theorem img_e0 {p q : ImgD} (h : ((((p.w) != q.w) || ((p.h) != q.h)) || (((p.l.length : Nat) : Int) != ((q.l.length : Nat) : Int))) = true) : false = p.eq q := by
 symm
 rw [Bool.eq_false_iff]
 intro e
 simp only [ImgD.eq, Bool.and_eq_true, beq_iff_eq] at e
 rw [e.1, e.2.1, e.2.2] at h
 simp at h
theorem img_el {p q : ImgD} (h : ((((p.w) != q.w) || ((p.h) != q.h)) || (((p.l.length : Nat) : Int) != ((q.l.length : Nat) : Int))) = false) : p.l.length = q.l.length := by
 simp at h; omega
theorem img_e1 {p q : ImgD} (h : ((((p.w) != q.w) || ((p.h) != q.h)) || (((p.l.length : Nat) : Int) != ((q.l.length : Nat) : Int))) = false) (h2 : true = decide (p.l = q.l)) : true = p.eq q := by
 simp at h h2
 simp [ImgD.eq, h, h2]
theorem img_e2 {p q : ImgD} (h2 : false = decide (p.l = q.l)) : false = p.eq q := by
 simp at h2
 simp [ImgD.eq, h2]
theorem r33Equal_any {w : World} {y1 y2 : ImgD} (h : y1.ok w) (h' : y2.ok w) :
  Calls Tryz.prog 52 #[y1.v, y2.v] w fun e w' => e = .returned (.bool (y1.eq y2)) ∧ Ext w w' := by
 obtain ⟨a, cap, hs⟩ := h.2.2.shape
 obtain ⟨d, cap', hs'⟩ := h'.2.2.shape
 unfold ImgD.v
 have hq := h.2.2
 have hq' := h'.2.2
 rw [hs, hs']
 rw [hs] at hq
 rw [hs'] at hq'
 have hmax : y1.l.length ≤ 9223372036854775807 := h.2.2.len
 refine Sx.enter Tryz.func52 Tryz.ntmps52 fun ac S => Sx.seqP fun _ κ1 => Sx.newp S 2 [.int .i64 y1.w, .int .i64 y1.h, .slice a y1.l.length cap] fun ac u b2 E3 hb4 S => Sx.newp S 3 [.int .i64 y2.w, .int .i64 y2.h, .slice d y2.l.length cap'] fun ac u b5 E6 hb7 S => Sx.run S 1 [] [(4, .bool false)] fun ac S => Sx.done <| κ1 _ _ <| wp_seq_k fun _ κ8 => Sx.seqP fun _ κ9 => Sx.run S 21 [.mem 1 0, .mem 0 0, .mem 1 1, .mem 0 1, .mem 1 2, .mem 0 2] [(26, .bool ((((y1.w) != y2.w) || ((y1.h) != y2.h)) || ((((y1.l.length : Nat) : Int)) != ((y2.l.length : Nat) : Int))))] fun ac S => Sx.done (κ9 _ _ ?_)
 refine Sx.cond S (fun hc10 => ?_) (fun hc10 => ?_)
 ·refine Sx.seqP fun _ κ11 => Sx.run S 1 [] [(4, .bool false)] fun ac S => Sx.done <| κ11 _ _ <| Vp.rt ?_
  refine Sx.ret1 S Tryz.results52 ?_
  exact ⟨ret_bool (img_e0 hc10), S.E⟩
 ·refine wp_skip <| κ8 _ _ <| wp_seq_k fun _ κ12 => Sx.seqP fun _ κ13 => Sx.run S 1 [] [(5, .int .i64 0)] fun ac S => Sx.done <| κ13 _ _ <| wp_block ?_
  refine Vp.loop (ι := Nat) (fun p a' w' => p ≤ y1.l.length ∧ (y1.l.take p = y2.l.take p) ∧ Sx.St w a' w' 45 [(0, .agg #[.int .i64 y1.w, .int .i64 y1.h, .slice a y1.l.length cap]), (1, .agg #[.int .i64 y2.w, .int .i64 y2.h, .slice d y2.l.length cap']), (2, .pointer (some ⟨b2, 0, none⟩)), (3, .pointer (some ⟨b5, 0, none⟩)), (4, .bool false), (5, .int .i64 ((p : Nat) : Int))] [(b5, [.int .i64 y2.w, .int .i64 y2.h, .slice d y2.l.length cap']), (b2, [.int .i64 y1.w, .int .i64 y1.h, .slice a y1.l.length cap])] []) (fun p => y1.l.length - p) (0) ⟨Nat.zero_le _, rfl, (S.sub [(0, .agg #[.int .i64 y1.w, .int .i64 y1.h, .slice a y1.l.length cap]), (1, .agg #[.int .i64 y2.w, .int .i64 y2.h, .slice d y2.l.length cap']), (2, .pointer (some ⟨b2, 0, none⟩)), (3, .pointer (some ⟨b5, 0, none⟩)), (4, .bool false), (5, .int .i64 ((0 : Nat) : Int))]).noviews⟩ ?_
  rintro k ac u hI
  try dsimp only at hI
  obtain ⟨hk, hR, S⟩ := hI
  refine wp_seq_k fun _ κ14 => Sx.seqP fun _ κ15 => Sx.run S 5 [.mem 1 2] [(31, .bool (decide (((k : Nat) : Int) < ((y1.l.length : Nat) : Int))))] fun ac S => Sx.done (κ15 _ _ ?_)
  refine Sx.cond S (fun hc16 => ?_) (fun hc16 => ?_)
  ·refine wp_skip <| κ14 _ _ <| wp_seq_k fun _ κ17 => wp_block <| wp_seq_k (fun _ κ18 => ?_)
   have lt25 : k < y1.l.length := by have := of_decide_eq_true hc16; omega
   obtain ⟨b20, o21, c22, hv, hb27, hr23⟩ := Vp.rowN_range2 hq (fun _ => rfl) (k) lt25
   simp only [Value.slice.injEq, true_and] at hv
   obtain ⟨rfl, rfl⟩ := hv
   obtain ⟨x26, hx24⟩ : ∃ z, y1.l[k] = z := ⟨_, rfl⟩
   rw [hx24] at hr23
   have S := S.view0 hb27 hr23
   have lt33 : k < y2.l.length := by have := (img_el hc10); have := of_decide_eq_true hc16; omega
   obtain ⟨b28, o29, c30, hv, hb35, hr31⟩ := Vp.rowN_range2 hq' (fun _ => rfl) (k) lt33
   simp only [Value.slice.injEq, true_and] at hv
   obtain ⟨rfl, rfl⟩ := hv
   obtain ⟨y34, hx32⟩ : ∃ z, y2.l[k] = z := ⟨_, rfl⟩
   rw [hx32] at hr31
   have S := S.view0 hb35 hr31
   refine Sx.draw S 11 [.mem 1 2, .idx k y1.l.length, .mem 3 0, .mem 0 2, .idx k y2.l.length, .mem 2 0, .cmp .neq 87 (.tmp 38) (.tmp 43) (.agg #[.int .u8 (x26.r.toNat : Int), .int .u8 (x26.g.toNat : Int), .int .u8 (x26.b.toNat : Int), .int .u8 (x26.a.toNat : Int)]) (.agg #[.int .u8 (y34.r.toNat : Int), .int .u8 (y34.g.toNat : Int), .int .u8 (y34.b.toNat : Int), .int .u8 (y34.a.toNat : Int)]) (.bool (!(((x26.r.toNat : Int) == (y34.r.toNat : Int)) && (((x26.g.toNat : Int) == (y34.g.toNat : Int)) && (((x26.b.toNat : Int) == (y34.b.toNat : Int)) && ((x26.a.toNat : Int) == (y34.a.toNat : Int)))))))] [] [(44, .bool (!(((x26.r.toNat : Int) == (y34.r.toNat : Int)) && (((x26.g.toNat : Int) == (y34.g.toNat : Int)) && (((x26.b.toNat : Int) == (y34.b.toNat : Int)) && ((x26.a.toNat : Int) == (y34.a.toNat : Int)))))))] trivial (hk := ⟨lt25, lt33, Sx.cmp_agg (fun _ => nePix ..) (by kernel_rfl), trivial⟩) fun ac u E19 S => Sx.done (κ18 _ _ ?_)
   refine Sx.cond S (fun hc36 => ?_) (fun hc36 => ?_)
   ·refine Sx.seqP fun _ κ37 => Sx.run S 1 [] [(4, .bool false)] fun ac S => Sx.done <| κ37 _ _ <| Vp.rt ?_
    refine Sx.ret1 S Tryz.results52 ?_
    exact ⟨ret_bool (img_e2 (rows_ne lt25 lt33 (fun e => by have hq := hc36; rw [hx24, hx32] at e; subst e; simp at hq))), S.E⟩
   ·refine wp_skip <| κ17 _ _ <| Vp.region <| Sx.run S 3 [.re 33 (.int .i64 (IntKind.i64.wrap (((k : Nat) : Int) + 1))) (.int .i64 (((k + 1) : Nat) : Int))] [(5, .int .i64 (((k + 1) : Nat) : Int))] (hk := ⟨Sx.wrap_succ (by omega), trivial⟩) fun ac S => Sx.done ?_
    show ∃ i', _ ∧ _
    exact ⟨(k + 1), ⟨by omega, (rows_step lt25 lt33 hR (by rw [hx24, hx32]; exact eq_Pix hc36)), (S.sub [(0, .agg #[.int .i64 y1.w, .int .i64 y1.h, .slice (some ⟨b20, o21, none⟩) y1.l.length cap]), (1, .agg #[.int .i64 y2.w, .int .i64 y2.h, .slice (some ⟨b28, o29, none⟩) y2.l.length cap']), (2, .pointer (some ⟨b2, 0, none⟩)), (3, .pointer (some ⟨b5, 0, none⟩)), (4, .bool false), (5, .int .i64 (((k + 1) : Nat) : Int))]).noviews⟩, by show _ - _ < _ - _; omega⟩
  ·refine wp_exit <| κ12 _ _ <| Sx.seqP fun _ κ38 => Sx.run S 1 [] [(4, .bool true)] fun ac S => Sx.done <| κ38 _ _ <| Vp.rt ?_
   refine Sx.ret1 S Tryz.results52 ?_
   exact ⟨ret_bool (img_e1 hc10 (rows_eq (by have := of_decide_eq_false hc16; omega) (img_el hc10) hR)), S.E⟩
theorem sty_e0 {p q : StyleD} (h : ((((((((p.width) != q.width) || ((p.join) != q.join)) || ((p.cap) != q.cap)) || ((p.miter) != q.miter)) || ((p.phase) != q.phase)) || (((p.dash.length : Nat) : Int) != ((q.dash.length : Nat) : Int)))) = true) : false = p.eq q := by
 symm
 rw [Bool.eq_false_iff]
 intro e
 simp only [StyleD.eq, Bool.and_eq_true, beq_iff_eq, decide_eq_true_eq] at e
 obtain ⟨⟨⟨⟨⟨e1, e2⟩, e3⟩, e4⟩, e5⟩, e6⟩ := e
 rw [e1, e2, e3, e4, e5, e6] at h
 simp at h
theorem sty_el {p q : StyleD} (h : ((((((((p.width) != q.width) || ((p.join) != q.join)) || ((p.cap) != q.cap)) || ((p.miter) != q.miter)) || ((p.phase) != q.phase)) || (((p.dash.length : Nat) : Int) != ((q.dash.length : Nat) : Int)))) = false) : p.dash.length = q.dash.length := by
 simp at h; omega
theorem sty_e1 {p q : StyleD} (h : ((((((((p.width) != q.width) || ((p.join) != q.join)) || ((p.cap) != q.cap)) || ((p.miter) != q.miter)) || ((p.phase) != q.phase)) || (((p.dash.length : Nat) : Int) != ((q.dash.length : Nat) : Int)))) = false) (h2 : true = decide (p.dash = q.dash)) : true = p.eq q := by
 simp at h h2
 simp [StyleD.eq, h, h2]
theorem sty_e2 {p q : StyleD} (h2 : false = decide (p.dash = q.dash)) : false = p.eq q := by
 simp at h2
 simp [StyleD.eq, h2]
theorem r36styleEq_any {w : World} {y1 y2 : StyleD} (h : y1.ok w) (h' : y2.ok w) :
  Calls Tryz.prog 51 #[y1.v, y2.v] w fun e w' => e = .returned (.bool (y1.eq y2)) ∧ Ext w w' := by
 obtain ⟨a, cap, hs, hcap, hrow⟩ := h.2.2.2.2.1
 obtain ⟨d, cap', hs', hcap', hrow'⟩ := h'.2.2.2.2.1
 unfold StyleD.v
 have hq := rowN_one (f := i64v) h.2.2.2.2.1
 have hq' := rowN_one (f := i64v) h'.2.2.2.2.1
 rw [hs, hs']
 rw [hs] at hq
 rw [hs'] at hq'
 have hmax : y1.dash.length ≤ 9223372036854775807 := hq.len
 refine Sx.enter Tryz.func51 Tryz.ntmps51 fun ac S => Sx.seqP fun _ κ1 => Sx.newp S 2 [.int .i64 y1.width, .int .i64 y1.join, .int .i64 y1.cap, .int .i64 y1.miter, .slice a y1.dash.length cap, .int .i64 y1.phase] fun ac u b2 E3 hb4 S => Sx.newp S 3 [.int .i64 y2.width, .int .i64 y2.join, .int .i64 y2.cap, .int .i64 y2.miter, .slice d y2.dash.length cap', .int .i64 y2.phase] fun ac u b5 E6 hb7 S => Sx.run S 1 [] [(4, .bool false)] fun ac S => Sx.done <| κ1 _ _ <| wp_seq_k fun _ κ8 => Sx.seqP fun _ κ9 => Sx.run S 42 [.mem 1 0, .mem 0 0, .mem 1 1, .mem 0 1, .mem 1 2, .mem 0 2, .mem 1 3, .mem 0 3, .mem 1 5, .mem 0 5, .mem 1 4, .mem 0 4] [(47, .bool (((((((y1.width) != y2.width) || ((y1.join) != y2.join)) || ((y1.cap) != y2.cap)) || ((y1.miter) != y2.miter)) || ((y1.phase) != y2.phase)) || ((((y1.dash.length : Nat) : Int)) != ((y2.dash.length : Nat) : Int))))] fun ac S => Sx.done (κ9 _ _ ?_)
 refine Sx.cond S (fun hc10 => ?_) (fun hc10 => ?_)
 ·refine Sx.seqP fun _ κ11 => Sx.run S 1 [] [(4, .bool false)] fun ac S => Sx.done <| κ11 _ _ <| Vp.rt ?_
  refine Sx.ret1 S Tryz.results51 ?_
  exact ⟨ret_bool (sty_e0 hc10), S.E⟩
 ·refine wp_skip <| κ8 _ _ <| wp_seq_k fun _ κ12 => Sx.seqP fun _ κ13 => Sx.run S 1 [] [(5, .int .i64 0)] fun ac S => Sx.done <| κ13 _ _ <| wp_block ?_
  refine Vp.loop (ι := Nat) (fun p a' w' => p ≤ y1.dash.length ∧ (y1.dash.take p = y2.dash.take p) ∧ Sx.St w a' w' 66 [(0, .agg #[.int .i64 y1.width, .int .i64 y1.join, .int .i64 y1.cap, .int .i64 y1.miter, .slice a y1.dash.length cap, .int .i64 y1.phase]), (1, .agg #[.int .i64 y2.width, .int .i64 y2.join, .int .i64 y2.cap, .int .i64 y2.miter, .slice d y2.dash.length cap', .int .i64 y2.phase]), (2, .pointer (some ⟨b2, 0, none⟩)), (3, .pointer (some ⟨b5, 0, none⟩)), (4, .bool false), (5, .int .i64 ((p : Nat) : Int))] [(b5, [.int .i64 y2.width, .int .i64 y2.join, .int .i64 y2.cap, .int .i64 y2.miter, .slice d y2.dash.length cap', .int .i64 y2.phase]), (b2, [.int .i64 y1.width, .int .i64 y1.join, .int .i64 y1.cap, .int .i64 y1.miter, .slice a y1.dash.length cap, .int .i64 y1.phase])] []) (fun p => y1.dash.length - p) (0) ⟨Nat.zero_le _, rfl, (S.sub [(0, .agg #[.int .i64 y1.width, .int .i64 y1.join, .int .i64 y1.cap, .int .i64 y1.miter, .slice a y1.dash.length cap, .int .i64 y1.phase]), (1, .agg #[.int .i64 y2.width, .int .i64 y2.join, .int .i64 y2.cap, .int .i64 y2.miter, .slice d y2.dash.length cap', .int .i64 y2.phase]), (2, .pointer (some ⟨b2, 0, none⟩)), (3, .pointer (some ⟨b5, 0, none⟩)), (4, .bool false), (5, .int .i64 ((0 : Nat) : Int))]).noviews⟩ ?_
  rintro k ac u hI
  try dsimp only at hI
  obtain ⟨hk, hR, S⟩ := hI
  refine wp_seq_k fun _ κ14 => Sx.seqP fun _ κ15 => Sx.run S 5 [.mem 1 4] [(52, .bool (decide (((k : Nat) : Int) < ((y1.dash.length : Nat) : Int))))] fun ac S => Sx.done (κ15 _ _ ?_)
  refine Sx.cond S (fun hc16 => ?_) (fun hc16 => ?_)
  ·refine wp_skip <| κ14 _ _ <| wp_seq_k fun _ κ17 => wp_block <| wp_seq_k (fun _ κ18 => ?_)
   have lt25 : k < y1.dash.length := by have := of_decide_eq_true hc16; omega
   obtain ⟨b20, o21, c22, hv, hb27, hr23⟩ := Vp.rowN_range2 hq (fun _ => rfl) (k) lt25
   simp only [Value.slice.injEq, true_and] at hv
   obtain ⟨rfl, rfl⟩ := hv
   obtain ⟨x26, hx24⟩ : ∃ z, y1.dash[k] = z := ⟨_, rfl⟩
   rw [hx24] at hr23
   have S := S.view0 hb27 hr23
   have lt33 : k < y2.dash.length := by have := (sty_el hc10); have := of_decide_eq_true hc16; omega
   obtain ⟨b28, o29, c30, hv, hb35, hr31⟩ := Vp.rowN_range2 hq' (fun _ => rfl) (k) lt33
   simp only [Value.slice.injEq, true_and] at hv
   obtain ⟨rfl, rfl⟩ := hv
   obtain ⟨y34, hx32⟩ : ∃ z, y2.dash[k] = z := ⟨_, rfl⟩
   rw [hx32] at hr31
   have S := S.view0 hb35 hr31
   refine Sx.draw S 11 [.mem 1 4, .idx k y1.dash.length, .mem 3 0, .mem 0 4, .idx k y2.dash.length, .mem 2 0] [] [(65, .bool ((x26) != y34))] trivial (hk := ⟨lt25, lt33, trivial⟩) fun ac u E19 S => Sx.done (κ18 _ _ ?_)
   refine Sx.cond S (fun hc36 => ?_) (fun hc36 => ?_)
   ·refine Sx.seqP fun _ κ37 => Sx.run S 1 [] [(4, .bool false)] fun ac S => Sx.done <| κ37 _ _ <| Vp.rt ?_
    refine Sx.ret1 S Tryz.results51 ?_
    exact ⟨ret_bool (sty_e2 (rows_ne lt25 lt33 (fun e => by have hq := hc36; rw [hx24, hx32] at e; subst e; simp at hq))), S.E⟩
   ·refine wp_skip <| κ17 _ _ <| Vp.region <| Sx.run S 3 [.re 54 (.int .i64 (IntKind.i64.wrap (((k : Nat) : Int) + 1))) (.int .i64 (((k + 1) : Nat) : Int))] [(5, .int .i64 (((k + 1) : Nat) : Int))] (hk := ⟨Sx.wrap_succ (by omega), trivial⟩) fun ac S => Sx.done ?_
    show ∃ i', _ ∧ _
    exact ⟨(k + 1), ⟨by omega, (rows_step lt25 lt33 hR (by rw [hx24, hx32]; exact eq_Int hc36)), (S.sub [(0, .agg #[.int .i64 y1.width, .int .i64 y1.join, .int .i64 y1.cap, .int .i64 y1.miter, .slice (some ⟨b20, o21, none⟩) y1.dash.length cap, .int .i64 y1.phase]), (1, .agg #[.int .i64 y2.width, .int .i64 y2.join, .int .i64 y2.cap, .int .i64 y2.miter, .slice (some ⟨b28, o29, none⟩) y2.dash.length cap', .int .i64 y2.phase]), (2, .pointer (some ⟨b2, 0, none⟩)), (3, .pointer (some ⟨b5, 0, none⟩)), (4, .bool false), (5, .int .i64 (((k + 1) : Nat) : Int))]).noviews⟩, by show _ - _ < _ - _; omega⟩
  ·refine wp_exit <| κ12 _ _ <| Sx.seqP fun _ κ38 => Sx.run S 1 [] [(4, .bool true)] fun ac S => Sx.done <| κ38 _ _ <| Vp.rt ?_
   refine Sx.ret1 S Tryz.results51 ?_
   exact ⟨ret_bool (sty_e1 hc10 (rows_eq (by have := of_decide_eq_false hc16; omega) (sty_el hc10) hR)), S.E⟩
theorem eq34 {p q : PaintD} (h : Nrm6 p.t.q) (h' : Nrm6 q.t.q) : (((((((((((p.kind) == q.kind) && (((p.color.r.toNat : Int) == (q.color.r.toNat : Int)) && (((p.color.g.toNat : Int) == (q.color.g.toNat : Int)) && (((p.color.b.toNat : Int) == (q.color.b.toNat : Int)) && ((p.color.a.toNat : Int) == (q.color.a.toNat : Int)))))) && ((p.p0.x == q.p0.x) && (p.p0.y == q.p0.y))) && ((p.p1.x == q.p1.x) && (p.p1.y == q.p1.y))) && ((p.radius) == q.radius)) && (decide (p.stops = q.stops))) && ((p.spread) == q.spread)) && (p.img.eq q.img)) && ((p.samp) == q.samp)) && (p.t.q.same q.t.q)) = p.eq q := by
 unfold PaintD.eq
 rw [Q6.same_eq h h']
 ac_rfl
theorem r34Equal_any {w : World} {p q : PaintD} {K : Nat} (h : p.ok w) (h' : q.ok w) (hf : p.t.fit K) (hf' : q.t.fit K) (hK1 : 1 ≤ K) (hK : K ≤ 10000) :
  Calls Tryz.prog 102 #[p.v, q.v] w fun e w' => e = .returned (.bool (p.eq q)) ∧ Ext w w' := by
 have hq := AffD.toQ h.2.2.2.2.2.2.2.2.2 hf
 have hq' := AffD.toQ h'.2.2.2.2.2.2.2.2.2 hf'
 refine Sx.enter Tryz.func102 Tryz.ntmps102 fun ac S => Sx.seqP fun _ κ1 => Sx.newp S 2 p.cells fun ac u b2 E3 hb4 S => Sx.newp S 3 q.cells fun ac u b5 E6 hb7 S => Sx.run S 1 [] [(4, .bool false)] fun ac S => Sx.done <| κ1 _ _ <| Sx.seqP fun _ κ8 => Sx.runC S 69 [.mem 1 0, .mem 0 0, .mem 1 1, .mem 0 1, .cmp .eql 67 (.tmp 12) (.tmp 14) (.agg #[.int .u8 (p.color.r.toNat : Int), .int .u8 (p.color.g.toNat : Int), .int .u8 (p.color.b.toNat : Int), .int .u8 (p.color.a.toNat : Int)]) (.agg #[.int .u8 (q.color.r.toNat : Int), .int .u8 (q.color.g.toNat : Int), .int .u8 (q.color.b.toNat : Int), .int .u8 (q.color.a.toNat : Int)]) (.bool (((p.color.r.toNat : Int) == (q.color.r.toNat : Int)) && (((p.color.g.toNat : Int) == (q.color.g.toNat : Int)) && (((p.color.b.toNat : Int) == (q.color.b.toNat : Int)) && ((p.color.a.toNat : Int) == (q.color.a.toNat : Int)))))), .mem 1 5, .mem 0 5, .cmp .eql 69 (.tmp 19) (.tmp 21) (.agg #[.int .i64 p.p0.x, .int .i64 p.p0.y]) (.agg #[.int .i64 q.p0.x, .int .i64 q.p0.y]) (.bool ((p.p0.x == q.p0.x) && (p.p0.y == q.p0.y))), .mem 1 7, .mem 0 7, .cmp .eql 69 (.tmp 26) (.tmp 28) (.agg #[.int .i64 p.p1.x, .int .i64 p.p1.y]) (.agg #[.int .i64 q.p1.x, .int .i64 q.p1.y]) (.bool ((p.p1.x == q.p1.x) && (p.p1.y == q.p1.y))), .mem 1 9, .mem 0 9, .mem 1 10, .mem 0 10, .mem 1 11, .mem 0 11, .mem 1 12, .mem 0 12, .mem 1 15, .mem 0 15, .mem 1 16, .mem 0 16] [(_, _, ((((((p.kind) == q.kind) && (((p.color.r.toNat : Int) == (q.color.r.toNat : Int)) && (((p.color.g.toNat : Int) == (q.color.g.toNat : Int)) && (((p.color.b.toNat : Int) == (q.color.b.toNat : Int)) && ((p.color.a.toNat : Int) == (q.color.a.toNat : Int)))))) && ((p.p0.x == q.p0.x) && (p.p0.y == q.p0.y))) && ((p.p1.x == q.p1.x) && (p.p1.y == q.p1.y))) && ((p.radius) == q.radius)), .bool (decide (p.stops = q.stops))), (_, _, ((((((((p.kind) == q.kind) && (((p.color.r.toNat : Int) == (q.color.r.toNat : Int)) && (((p.color.g.toNat : Int) == (q.color.g.toNat : Int)) && (((p.color.b.toNat : Int) == (q.color.b.toNat : Int)) && ((p.color.a.toNat : Int) == (q.color.a.toNat : Int)))))) && ((p.p0.x == q.p0.x) && (p.p0.y == q.p0.y))) && ((p.p1.x == q.p1.x) && (p.p1.y == q.p1.y))) && ((p.radius) == q.radius)) && (decide (p.stops = q.stops))) && ((p.spread) == q.spread)), .bool (p.img.eq q.img)), (_, _, ((((((((((p.kind) == q.kind) && (((p.color.r.toNat : Int) == (q.color.r.toNat : Int)) && (((p.color.g.toNat : Int) == (q.color.g.toNat : Int)) && (((p.color.b.toNat : Int) == (q.color.b.toNat : Int)) && ((p.color.a.toNat : Int) == (q.color.a.toNat : Int)))))) && ((p.p0.x == q.p0.x) && (p.p0.y == q.p0.y))) && ((p.p1.x == q.p1.x) && (p.p1.y == q.p1.y))) && ((p.radius) == q.radius)) && (decide (p.stops = q.stops))) && ((p.spread) == q.spread)) && (p.img.eq q.img)) && ((p.samp) == q.samp)), .bool (p.t.q.same q.t.q))] [(4, .bool (((((((((((p.kind) == q.kind) && (((p.color.r.toNat : Int) == (q.color.r.toNat : Int)) && (((p.color.g.toNat : Int) == (q.color.g.toNat : Int)) && (((p.color.b.toNat : Int) == (q.color.b.toNat : Int)) && ((p.color.a.toNat : Int) == (q.color.a.toNat : Int)))))) && ((p.p0.x == q.p0.x) && (p.p0.y == q.p0.y))) && ((p.p1.x == q.p1.x) && (p.p1.y == q.p1.y))) && ((p.radius) == q.radius)) && (decide (p.stops = q.stops))) && ((p.spread) == q.spread)) && (p.img.eq q.img)) && ((p.samp) == q.samp)) && (p.t.q.same q.t.q)))] ⟨fun u hC g => r31Same_any (l := p.stops) (m := q.stops) (h.2.2.2.2.1.below (Ext.trans' S.E hC)) (h'.2.2.2.2.1.below (Ext.trans' S.E hC)), fun u hC g => r33Equal_any (y1 := p.img) (y2 := q.img) (h.2.2.2.2.2.2.2.1.below (Ext.trans' S.E hC)) (h'.2.2.2.2.2.2.2.1.below (Ext.trans' S.E hC)), fun u hC g => refEqual12_q (t := p.t) (t2 := q.t) (hq.belowQ (Ext.trans' S.E hC)) (hq'.belowQ (Ext.trans' S.E hC)) hK1 hK, trivial⟩ (hk := ⟨Sx.cmp_agg (fun _ => eqCol ..) (by kernel_rfl), Sx.cmp_agg (fun _ => eqPt ..) (by kernel_rfl), Sx.cmp_agg (fun _ => eqPt ..) (by kernel_rfl), trivial⟩) fun ac u E9 S => Sx.done <| κ8 _ _ <| Vp.rt ?_
 refine Sx.ret1 S Tryz.results102 ?_
 exact ⟨ret_bool (eq34 hq.nrm hq'.nrm), S.E⟩
theorem r36paintsEq_any {w : World} {v u : Value} {l m : List PaintD} (h : IsPaints w v l) (h' : IsPaints w u m) (hf : ∀ p ∈ l, p.t.fit K) (hf' : ∀ p ∈ m, p.t.fit K) (hK1 : 1 ≤ K) (hK : K ≤ 10000) :
  Calls Tryz.prog 50 #[v, u] w fun e w' => e = .returned (.bool (paintsEq l m)) ∧ Ext w w' := by
 obtain ⟨a, cap, rfl⟩ := h.1.shape
 obtain ⟨d, cap', rfl⟩ := h'.1.shape
 have hmax : l.length ≤ 9223372036854775807 := h.1.len
 refine Sx.enter Tryz.func50 Tryz.ntmps50 fun ac S => Sx.seqP fun _ κ1 => Sx.run S 1 [] [(4, .bool false)] fun ac S => Sx.done <| κ1 _ _ <| wp_seq_k fun _ κ2 => Sx.seqP fun _ κ3 => Sx.run S 5 [] [(10, .bool ((((l.length : Nat) : Int)) != ((m.length : Nat) : Int)))] fun ac S => Sx.done (κ3 _ _ ?_)
 refine Sx.cond S (fun hc4 => ?_) (fun hc4 => ?_)
 ·refine Sx.seqP fun _ κ5 => Sx.run S 1 [] [(4, .bool false)] fun ac S => Sx.done <| κ5 _ _ <| Vp.rt ?_
  refine Sx.ret1 S Tryz.results50 ?_
  exact ⟨ret_bool (peq_ne hc4), S.E⟩
 ·refine wp_skip <| κ2 _ _ <| wp_seq_k fun _ κ6 => Sx.seqP fun _ κ7 => Sx.run S 1 [] [(5, .int .i64 0)] fun ac S => Sx.done <| κ7 _ _ <| wp_block ?_
  refine Vp.loop (ι := Nat) (fun p a' w' => p ≤ l.length ∧ (((l.zip m).take p).all (fun p => p.1.eq p.2) = true) ∧ Sx.St w a' w' 27 [(0, .slice a l.length cap), (1, .slice d m.length cap'), (4, .bool false), (5, .int .i64 ((p : Nat) : Int))] [] []) (fun p => l.length - p) (0) ⟨Nat.zero_le _, rfl, (S.sub [(0, .slice a l.length cap), (1, .slice d m.length cap'), (4, .bool false), (5, .int .i64 ((0 : Nat) : Int))]).noviews⟩ ?_
  rintro k ac u hI
  try dsimp only at hI
  obtain ⟨hk, hR, S⟩ := hI
  refine wp_seq_k fun _ κ8 => Sx.seqP fun _ κ9 => Sx.run S 4 [] [(14, .bool (decide (((k : Nat) : Int) < ((l.length : Nat) : Int))))] fun ac S => Sx.done (κ9 _ _ ?_)
  refine Sx.cond S (fun hc10 => ?_) (fun hc10 => ?_)
  ·refine wp_skip <| κ8 _ _ <| wp_seq_k fun _ κ11 => wp_block <| wp_seq_k (fun _ κ12 => ?_)
   have lt19 : k < l.length := by have := of_decide_eq_true hc10; omega
   obtain ⟨b14, o15, c16, hv, hb21, hr17⟩ := Vp.rowN_range2 h.1 (fun _ => rfl) (k) lt19
   simp only [Value.slice.injEq, true_and] at hv
   obtain ⟨rfl, rfl⟩ := hv
   obtain ⟨x20, hx18⟩ : ∃ z, l[k] = z := ⟨_, rfl⟩
   rw [hx18] at hr17
   have S := S.view0 hb21 hr17
   have lt27 : k < m.length := by have := of_len hc4; have := of_decide_eq_true hc10; omega
   obtain ⟨b22, o23, c24, hv, hb29, hr25⟩ := Vp.rowN_range2 h'.1 (fun _ => rfl) (k) lt27
   simp only [Value.slice.injEq, true_and] at hv
   obtain ⟨rfl, rfl⟩ := hv
   obtain ⟨y28, hx26⟩ : ∃ z, m[k] = z := ⟨_, rfl⟩
   rw [hx26] at hr25
   have S := S.view0 hb29 hr25
   refine Sx.draw S 10 [.idx k l.length, .mem 1 0, .idx k m.length, .mem 0 0] [(_, _, true, .bool (x20.eq y28))] [(26, .bool (!(x20.eq y28)))] ⟨fun u hC g => r34Equal_any (K := K) (p := x20) (q := y28) ((h.2 _ (hx18 ▸ List.getElem_mem lt19)).below (Ext.trans' S.E hC)) ((h'.2 _ (hx26 ▸ List.getElem_mem lt27)).below (Ext.trans' S.E hC)) (hf _ (hx18 ▸ List.getElem_mem lt19)) (hf' _ (hx26 ▸ List.getElem_mem lt27)) hK1 hK, trivial⟩ (hk := ⟨lt19, lt27, trivial⟩) fun ac u E13 S => Sx.done (κ12 _ _ ?_)
   refine Sx.cond S (fun hc30 => ?_) (fun hc30 => ?_)
   ·refine Sx.seqP fun _ κ31 => Sx.run S 1 [] [(4, .bool false)] fun ac S => Sx.done <| κ31 _ _ <| Vp.rt ?_
    refine Sx.ret1 S Tryz.results50 ?_
    exact ⟨ret_bool (peq_no lt19 lt27 (by rw [hx18, hx26]; exact hc30)), S.E⟩
   ·refine wp_skip <| κ11 _ _ <| Vp.region <| Sx.run S 3 [.re 16 (.int .i64 (IntKind.i64.wrap (((k : Nat) : Int) + 1))) (.int .i64 (((k + 1) : Nat) : Int))] [(5, .int .i64 (((k + 1) : Nat) : Int))] (hk := ⟨Sx.wrap_succ (by omega), trivial⟩) fun ac S => Sx.done ?_
    show ∃ i', _ ∧ _
    exact ⟨(k + 1), ⟨by omega, (peq_step lt19 lt27 hR (by rw [hx18, hx26]; exact hc30)), (S.sub [(0, .slice (some ⟨b14, o15, none⟩) l.length cap), (1, .slice (some ⟨b22, o23, none⟩) m.length cap'), (4, .bool false), (5, .int .i64 (((k + 1) : Nat) : Int))]).noviews⟩, by show _ - _ < _ - _; omega⟩
  ·refine wp_exit <| κ6 _ _ <| Sx.seqP fun _ κ32 => Sx.run S 1 [] [(4, .bool true)] fun ac S => Sx.done <| κ32 _ _ <| Vp.rt ?_
   refine Sx.ret1 S Tryz.results50 ?_
   exact ⟨ret_bool (peq_end (by have := of_decide_eq_false hc10; omega) (of_len hc4) hR), S.E⟩
def NodeD.eqR (a b : NodeD) : Bool := cond ((((((((a.id) != b.id) || ((a.kind) != b.kind)) || ((a.depth) != b.depth)) || (!(a.t.q.same b.t.q))) || ((a.clipRule) != b.clipRule)) || ((a.fillRule) != b.fillRule)) || ((a.samp) != b.samp)) (false) (cond ((((((a.opacity.toNat : Int)) != (b.opacity.toNat : Int)) || ((a.blend) != b.blend)) || (!(a.isolated == b.isolated))) || (!(a.knockout == b.knockout))) (false) ((((((decide (a.clip = b.clip)) && (decide (a.path = b.path))) && (paintsEq a.fill b.fill)) && (paintsEq a.stroke b.stroke)) && (a.style.eq b.style)) && (a.img.eq b.img)))
theorem r36Equal_any {w : World} {a b : NodeD} (h : NodeOk K w a) (h' : NodeOk K w b) :
  Calls Tryz.prog 22 #[a.v, b.v] w fun e w' => e = .returned (.bool (NodeD.eqR a b)) ∧ Ext w w' := by
 skip
 refine Sx.enter Tryz.func22 Tryz.ntmps22 fun ac S => Sx.seqP fun _ κ1 => Sx.newp S 2 a.cells fun ac u b2 E3 hb4 S => Sx.newp S 3 b.cells fun ac u b5 E6 hb7 S => Sx.run S 1 [] [(4, .bool false)] fun ac S => Sx.done <| κ1 _ _ <| wp_seq_k fun _ κ8 => Sx.seqP fun _ κ9 => Sx.runC S 48 [.mem 1 0, .mem 0 0, .mem 1 1, .mem 0 1, .mem 1 2, .mem 0 2, .mem 1 3, .mem 0 3, .mem 1 28, .mem 0 28, .mem 1 34, .mem 0 34, .mem 1 46, .mem 0 46] [(_, _, (!((((a.id) != b.id) || ((a.kind) != b.kind)) || ((a.depth) != b.depth))), .bool (a.t.q.same b.t.q))] [(52, .bool ((((((((a.id) != b.id) || ((a.kind) != b.kind)) || ((a.depth) != b.depth)) || (!(a.t.q.same b.t.q))) || ((a.clipRule) != b.clipRule)) || ((a.fillRule) != b.fillRule)) || ((a.samp) != b.samp)))] ⟨fun u hC g => refEqual12_q (t := a.t) (t2 := b.t) ((AffD.toQ h.1.2.2.2.1 h.2.1).belowQ (Ext.trans' S.E hC)) ((AffD.toQ h'.1.2.2.2.1 h'.2.1).belowQ (Ext.trans' S.E hC)) h.2.2.2.2.1 h.2.2.2.2.2, trivial⟩ fun ac u E10 S => Sx.done (κ9 _ _ ?_)
 refine Sx.cond S (fun hc11 => ?_) (fun hc11 => ?_)
 ·refine Sx.seqP fun _ κ12 => Sx.run S 1 [] [(4, .bool false)] fun ac S => Sx.done <| κ12 _ _ <| Vp.rt ?_
  have p0 := hc11
  refine Sx.ret1 S Tryz.results22 ?_
  exact ⟨ret_bool (by unfold NodeD.eqR; simp only [p0, cond_true]), S.E⟩
 ·refine wp_skip <| κ8 _ _ <| wp_seq_k fun _ κ13 => Sx.seqP fun _ κ14 => Sx.run S 26 [.mem 1 29, .mem 0 29, .mem 1 30, .mem 0 30, .mem 1 31, .mem 0 31, .mem 1 32, .mem 0 32] [(78, .bool ((((((a.opacity.toNat : Int)) != (b.opacity.toNat : Int)) || ((a.blend) != b.blend)) || (!(a.isolated == b.isolated))) || (!(a.knockout == b.knockout))))] fun ac S => Sx.done (κ14 _ _ ?_)
  refine Sx.cond S (fun hc15 => ?_) (fun hc15 => ?_)
  ·refine Sx.seqP fun _ κ16 => Sx.run S 1 [] [(4, .bool false)] fun ac S => Sx.done <| κ16 _ _ <| Vp.rt ?_
   have p0 := hc11
   have p1 := hc15
   refine Sx.ret1 S Tryz.results22 ?_
   exact ⟨ret_bool (by unfold NodeD.eqR; simp only [p0, p1, cond_true, cond_false]), S.E⟩
  ·refine wp_skip <| κ13 _ _ <| Sx.seqP fun _ κ17 => Sx.run S 4 [.mem 1 27, .mem 0 27] [(80, a.cs), (82, b.cs)] fun ac S => Sx.callv S 83 (r13Equal_any (l := a.clip) (m := b.clip) (h.1.2.2.2.2.1.1.below S.E) (h'.1.2.2.2.2.1.1.below S.E)) fun ac u E18 S => Sx.runC S 36 [.mem 1 33, .mem 0 33, .mem 1 35, .mem 0 35, .mem 1 42, .mem 0 42, .mem 1 36, .mem 0 36, .mem 1 43, .mem 0 43] [(_, _, (decide (a.clip = b.clip)), .bool (decide (a.path = b.path))), (_, _, ((decide (a.clip = b.clip)) && (decide (a.path = b.path))), .bool (paintsEq a.fill b.fill)), (_, _, (((decide (a.clip = b.clip)) && (decide (a.path = b.path))) && (paintsEq a.fill b.fill)), .bool (paintsEq a.stroke b.stroke)), (_, _, ((((decide (a.clip = b.clip)) && (decide (a.path = b.path))) && (paintsEq a.fill b.fill)) && (paintsEq a.stroke b.stroke)), .bool (a.style.eq b.style)), (_, _, (((((decide (a.clip = b.clip)) && (decide (a.path = b.path))) && (paintsEq a.fill b.fill)) && (paintsEq a.stroke b.stroke)) && (a.style.eq b.style)), .bool (a.img.eq b.img))] [(4, .bool ((((((decide (a.clip = b.clip)) && (decide (a.path = b.path))) && (paintsEq a.fill b.fill)) && (paintsEq a.stroke b.stroke)) && (a.style.eq b.style)) && (a.img.eq b.img)))] ⟨fun u hC g => r13Equal_any (l := a.path) (m := b.path) (h.1.2.2.2.2.2.2.2.1.1.below (Ext.trans' S.E hC)) (h'.1.2.2.2.2.2.2.2.1.1.below (Ext.trans' S.E hC)), fun u hC g => r36paintsEq_any (l := a.fill) (m := b.fill) (K := K) (h.1.2.2.2.2.2.2.2.2.2.1.below (Ext.trans' S.E hC)) (h'.1.2.2.2.2.2.2.2.2.2.1.below (Ext.trans' S.E hC)) h.2.2.1 h'.2.2.1 h.2.2.2.2.1 h.2.2.2.2.2, fun u hC g => r36paintsEq_any (l := a.stroke) (m := b.stroke) (K := K) (h.1.2.2.2.2.2.2.2.2.2.2.2.1.below (Ext.trans' S.E hC)) (h'.1.2.2.2.2.2.2.2.2.2.2.2.1.below (Ext.trans' S.E hC)) h.2.2.2.1 h'.2.2.2.1 h.2.2.2.2.1 h.2.2.2.2.2, fun u hC g => r36styleEq_any (y1 := a.style) (y2 := b.style) (h.1.2.2.2.2.2.2.2.2.2.2.1.below (Ext.trans' S.E hC)) (h'.1.2.2.2.2.2.2.2.2.2.2.1.below (Ext.trans' S.E hC)), fun u hC g => r33Equal_any (y1 := a.img) (y2 := b.img) (h.1.2.2.2.2.2.2.2.2.2.2.2.2.1.below (Ext.trans' S.E hC)) (h'.1.2.2.2.2.2.2.2.2.2.2.2.2.1.below (Ext.trans' S.E hC)), trivial⟩ fun ac u E19 S => Sx.done <| κ17 _ _ <| Vp.rt ?_
   have p0 := hc11
   have p1 := hc15
   refine Sx.ret1 S Tryz.results22 ?_
   exact ⟨ret_bool (by unfold NodeD.eqR; simp only [p0, p1, cond_false]), S.E⟩
end Go.Proofs.YtcohmdeoocgmdaaGreatDoor
