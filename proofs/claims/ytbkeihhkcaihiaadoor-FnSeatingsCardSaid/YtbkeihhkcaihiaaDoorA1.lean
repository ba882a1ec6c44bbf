-- made by a program of this session (wip/tools), out of the translation; Lean checks it
import Derived.Test.YtbkeihhkcaihiaaDoorA0
namespace Go.Proofs.YtbkeihhkcaihiaaDoor.FnSeatings
open Go.RowKit Go.Proofs.YtbkeihhkcaihiaaDoorW.PrintWords Go.Proofs.YtbkeihhkcaihiaaDoorW.PrintLast Go.Proofs.YtbkeihhkcaihiaaDoorW.PrintMore
attribute [local go_sem] max2_int min2_int max_two min_two max_three min_three max_four min_four   -- for this text's walks alone
set_option linter.unusedVariables false
set_option linter.unusedSimpArgs false

theorem eqA39 (d : Nat) (w : World) (x0 y0 : Int) (x1 y1 : Int) : (Op.equalIn (d + 2) 39 (.agg #[Value.int .i64 x0, Value.int .i64 x1]) (.agg #[Value.int .i64 y0, Value.int .i64 y1])).run Tryd.prog w = .ok (x0 == y0 && (x1 == y1)) w := by
 obtain ⟨i, hi, _, hc, _⟩ := info_parts info3
 have hcell : Tryd.prog.cellsOf 3 = 1 := by kernel_rfl
 rw [run_equalIn_array (P := Tryd.prog) (w := w) (d + 1) _ _ Tryd.underlying39 hi, hcell]
 have h0 : (Op.equalIn (d + 1) 3 (.int .i64 x0) (.int .i64 y0)).run Tryd.prog w = .ok (x0 == y0) w := by go_simp
 have a0 : (part 3 #[Value.int .i64 x0, Value.int .i64 x1] (0 * 1)).run Tryd.prog w = .ok (.int .i64 x0) w := by go_simp
 have b0 : (part 3 #[Value.int .i64 y0, Value.int .i64 y1] (0 * 1)).run Tryd.prog w = .ok (.int .i64 y0) w := by go_simp
 have h1 : (Op.equalIn (d + 1) 3 (.int .i64 x1) (.int .i64 y1)).run Tryd.prog w = .ok (x1 == y1) w := by go_simp
 have a1 : (part 3 #[Value.int .i64 x0, Value.int .i64 x1] (1 * 1)).run Tryd.prog w = .ok (.int .i64 x1) w := by go_simp
 have b1 : (part 3 #[Value.int .i64 y0, Value.int .i64 y1] (1 * 1)).run Tryd.prog w = .ok (.int .i64 y1) w := by go_simp
 rw [show List.range 2 = [0, 1] from rfl]
 generalize (x0 == y0) = r0 at h0 ⊢
 generalize (x1 == y1) = r1 at h1 ⊢
 simp only [Op.eqItems, Sem.run_bind, a0, b0, h0, Result.andThen_ok]
 cases r0
 ·simp
 simp only [Bool.not_true, Bool.false_eq_true, if_false, Bool.true_and, Op.eqItems, Sem.run_bind, a1, b1, h1, Result.andThen_ok]
 cases r1 <;> simp
end Go.Proofs.YtbkeihhkcaihiaaDoor.FnSeatings
