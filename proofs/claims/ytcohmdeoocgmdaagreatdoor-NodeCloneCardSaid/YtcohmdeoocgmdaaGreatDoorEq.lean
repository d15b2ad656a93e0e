/- '==' on the small structs. -/
import Derived.Test.YtcohmdeoocgmdaaGreatDoorProg
import Derived.Test.YtcohmdeoocgmdaaGreatDoorAffQ
import Derived.Test.YtcohmdeoocgmdaaGreatDoorVpC
namespace Go.Proofs.YtcohmdeoocgmdaaGreatDoor
open Go.RowKit
set_option linter.unusedVariables false
theorem eqPt (x y p q : Int) (w : World) : (binOp .eql 69 (.agg #[.int .i64 x, .int .i64 y]) (.agg #[.int .i64 p, .int .i64 q])).run Tryz.prog w = .ok (.bool ((x == p) && (y == q))) w := by
 simp [go_sem]
 (repeat' split) <;> simp_all
theorem nePt (x y p q : Int) (w : World) : (binOp .neq 69 (.agg #[.int .i64 x, .int .i64 y]) (.agg #[.int .i64 p, .int .i64 q])).run Tryz.prog w = .ok (.bool (!((x == p) && (y == q)))) w := by
 simp [go_sem]
 (repeat' split) <;> simp_all
theorem eqPix (a b c d e f g h : Int) (w : World) : (binOp .eql 87 (.agg #[.int .u8 a, .int .u8 b, .int .u8 c, .int .u8 d]) (.agg #[.int .u8 e, .int .u8 f, .int .u8 g, .int .u8 h])).run Tryz.prog w = .ok (.bool ((a == e) && ((b == f) && ((c == g) && (d == h))))) w := by
 simp [go_sem]
 (repeat' split) <;> simp_all
theorem nePix (a b c d e f g h : Int) (w : World) : (binOp .neq 87 (.agg #[.int .u8 a, .int .u8 b, .int .u8 c, .int .u8 d]) (.agg #[.int .u8 e, .int .u8 f, .int .u8 g, .int .u8 h])).run Tryz.prog w = .ok (.bool (!((a == e) && ((b == f) && ((c == g) && (d == h)))))) w := by
 simp [go_sem]
 (repeat' split) <;> simp_all
theorem eqCol (a b c d e f g h : Int) (w : World) : (binOp .eql 67 (.agg #[.int .u8 a, .int .u8 b, .int .u8 c, .int .u8 d]) (.agg #[.int .u8 e, .int .u8 f, .int .u8 g, .int .u8 h])).run Tryz.prog w = .ok (.bool ((a == e) && ((b == f) && ((c == g) && (d == h))))) w := by
 simp [go_sem]
 (repeat' split) <;> simp_all
theorem neStop (o a b c d p e f g h : Int) (w : World) : (binOp .neq 102 (.agg #[.int .i64 o, .int .u8 a, .int .u8 b, .int .u8 c, .int .u8 d]) (.agg #[.int .i64 p, .int .u8 e, .int .u8 f, .int .u8 g, .int .u8 h])).run Tryz.prog w = .ok (.bool (!((o == p) && ((a == e) && ((b == f) && ((c == g) && (d == h))))))) w := by
 simp [go_sem]
 (repeat' split) <;> simp_all
theorem neSeg (v a b c d e f v' a' b' c' d' e' f' : Int) (w : World) : (binOp .neq 74 (.agg #[.int .i64 v, .int .i64 a, .int .i64 b, .int .i64 c, .int .i64 d, .int .i64 e, .int .i64 f]) (.agg #[.int .i64 v', .int .i64 a', .int .i64 b', .int .i64 c', .int .i64 d', .int .i64 e', .int .i64 f'])).run Tryz.prog w =
  .ok (.bool (!((v == v') && ((a == a') && ((b == b') && ((c == c') && ((d == d') && ((e == e') && (f == f'))))))))) w := by
 simp [go_sem]
 (repeat' split) <;> simp_all
end Go.Proofs.YtcohmdeoocgmdaaGreatDoor
