/- Functions of the program as Lean functions, each with its walk: that the Go code comes to just these answers, whatever the memory. Written by a program of this claim (wip/tools). -/
import Derived.Test.YtmgljgmieomngaaMc
import Derived.Test.YtmgljgmieomngaaQx0
namespace Go.Proofs.Ytmgljgmieomngaa.Q
open Go.RowKit Go.Proofs.YtmgljgmieomngaaW.PrintWords Go.Proofs.YtmgljgmieomngaaW.PrintLast Go.Proofs.YtmgljgmieomngaaW.PrintMore
attribute [local go_sem] run_ftoi isSome_setCell bytesLess_total run_store_complex run_store_float max2_int min2_int max_two min_two max_three min_three max_four min_four   -- for this text's walks alone
set_option linter.unusedVariables false
set_option linter.unusedSimpArgs false

theorem eqA43 (d : Nat) (w : World) (x0 y0 : Int) (x1 y1 : Int) (x2 y2 : ByteArray) (x3 y3 : Bool) (x4 y4 : Cx) :
  (Op.equalIn (d + 2) 43 (.agg #[.int .i64 x0, .int .i64 x1, .string x2, .bool x3, .complex .f64 x4.re x4.im]) (.agg #[.int .i64 y0, .int .i64 y1, .string y2, .bool y3, .complex .f64 y4.re y4.im])).run Try.prog w = .ok (x0 == y0 && (x1 == y1 && (x2.toList == y2.toList && (x3 == y3 && ((FloatKind.f64.format.order x4.re y4.re == some .eq) && (FloatKind.f64.format.order x4.im y4.im == some .eq)))))) w := by
 refine eqA_of Try.underlying43 (by kernel_rfl) ?_
 refine eqf_cons (by rfl) (by go_simp; rfl) (by go_simp; rfl) (by go_simp) ?_
 refine eqf_cons (by rfl) (by go_simp; rfl) (by go_simp; rfl) (by go_simp) ?_
 refine eqf_cons (by rfl) (by go_simp; rfl) (by go_simp; rfl) (by go_simp) ?_
 refine eqf_cons (by rfl) (by go_simp; rfl) (by go_simp; rfl) (by go_simp) ?_
 exact eqf_last (by rfl) (by first | (go_simp; done) | (go_simp; rfl)) (by first | (go_simp; done) | (go_simp; rfl)) (eq_complex w _ _ _ _ _ _ (by kernel_rfl))
theorem eqA54 (d : Nat) (w : World) (x0 y0 : Int) (x1 y1 : ByteArray) (x2 y2 : Int) (x3 y3 : Int) (x4 y4 : Int) (x5 y5 : ByteArray) (x6 y6 : Bool) (x7 y7 : Cx) (x8 y8 : Int) :
  (Op.equalIn (d + 3) 54 (.agg #[.int .i64 x0, .string x1, .int .i64 x2, .int .i64 x3, .int .i64 x4, .string x5, .bool x6, .complex .f64 x7.re x7.im, .int .i64 x8]) (.agg #[.int .i64 y0, .string y1, .int .i64 y2, .int .i64 y3, .int .i64 y4, .string y5, .bool y6, .complex .f64 y7.re y7.im, .int .i64 y8])).run Try.prog w = .ok (x0 == y0 && (x1.toList == y1.toList && (x2 == y2 && ((x3 == y3 && (x4 == y4 && (x5.toList == y5.toList && (x6 == y6 && ((FloatKind.f64.format.order x7.re y7.re == some .eq) && (FloatKind.f64.format.order x7.im y7.im == some .eq)))))) && (x8 == y8))))) w := by
 refine eqA_of Try.underlying54 (by kernel_rfl) ?_
 refine eqf_cons (by rfl) (by go_simp; rfl) (by go_simp; rfl) (by go_simp) ?_
 refine eqf_cons (by rfl) (by go_simp; rfl) (by go_simp; rfl) (by go_simp) ?_
 refine eqf_cons (by rfl) (by go_simp; rfl) (by go_simp; rfl) (by go_simp) ?_
 refine eqf_cons (by rfl) (by go_simp) (by go_simp) (eqA43 (d + 0) w _ _ _ _ _ _ _ _ _ _) ?_
 exact eqf_last (by rfl) (by go_simp; rfl) (by go_simp; rfl) (by go_simp)
end Go.Proofs.Ytmgljgmieomngaa.Q
