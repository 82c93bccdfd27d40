/- '==' of two arrays of two whole numbers, as one Bool. -/
import Derived.Test.YtidpnehbmjfdlaaProg
import Derived.Laws.StructEq
import Derived.WalkKit
import Derived.KernelRfl
namespace Go.Proofs.Ytidpnehbmjfdlaa.Q
open Go.RowKit
set_option linter.unusedVariables false
set_option linter.unusedSimpArgs false

theorem part62_0 (a b : Int) (w : World) : (part 2 #[.int .i64 a, .int .i64 b] 0).run Try.prog w = .ok (.int .i64 a) w := by
  go_simp
theorem part62_1 (a b : Int) (w : World) : (part 2 #[.int .i64 a, .int .i64 b] 1).run Try.prog w = .ok (.int .i64 b) w := by
  go_simp
theorem size2 (w : World) : (sizeOf 2).run Try.prog w = .ok 1 w := by go_simp
theorem eqArrM (m : Nat) (w : World) (x0 y0 x1 y1 : Int) (hm : ∀ a b : Int, (Op.equalIn m 2 (.int .i64 a) (.int .i64 b)).run Try.prog w = .ok (a == b) w) :
    (Op.equalIn (m + 1) 62 (.agg #[.int .i64 x0, .int .i64 x1]) (.agg #[.int .i64 y0, .int .i64 y1])).run Try.prog w = .ok (x0 == y0 && (x1 == y1)) w := by
  simp only [Op.equalIn, Sem.run_bind, run_underlying Try.underlying62, Result.andThen_ok, size2]
  simp only [Std.Legacy.Range.forIn_eq_forIn_range', Std.Legacy.Range.size]
  rw [show List.range' 0 ((2 - 0 + 1 - 1) / 1) 1 = [0, 1] from rfl]
  simp only [List.forIn_cons, List.forIn_nil, Sem.run_bind, Nat.zero_mul, Nat.one_mul, part62_0, part62_1, Result.andThen_ok, hm]
  cases h0 : (x0 == y0) <;> cases h1 : (x1 == y1) <;> simp [part62_1, hm, h1]
theorem eqA62 (d : Nat) (w : World) (x0 y0 : Int) (x1 y1 : Int) :
    (Op.equalIn (d + 2) 62 (.agg #[.int .i64 x0, .int .i64 x1]) (.agg #[.int .i64 y0, .int .i64 y1])).run Try.prog w = .ok (x0 == y0 && (x1 == y1)) w :=
  eqArrM _ w x0 y0 x1 y1 (fun a b => run_equalIn_int w d 2 .i64 .i64 a b Try.underlying2)

end Go.Proofs.Ytidpnehbmjfdlaa.Q
