-- PRINTED BY print.sh 35421559b90ae4d0a3588c463048766b98c2df88dd9212a6774a882060cdf62d: not written by this session
import Derived.Test.YtjdkkfbcpbjpkaaPFnExactEqualBrowsersx0
namespace Go.Proofs.Ytjdkkfbcpbjpkaa.PFnExactEqualBrowsers
open Go.RowKit Go.Proofs.YtjdkkfbcpbjpkaaW.PrintWords Go.Proofs.YtjdkkfbcpbjpkaaW.PrintLast Go.Proofs.YtjdkkfbcpbjpkaaW.PrintMore
attribute [local go_sem] max2_int min2_int max_two min_two max_three min_three max_four min_four   -- for this text's walks alone
set_option linter.unusedVariables false
set_option linter.unusedSimpArgs false

theorem eqA95 (d : Nat) (w : World) (x0 y0 : Bool) (x1 y1 : ByteArray) (x2 y2 : Int) :
    (Op.equalIn (d + 2) 95 (.agg #[.bool x0, .string x1, .int .i64 x2]) (.agg #[.bool y0, .string y1, .int .i64 y2])).run Try.prog w = .ok (x0 == y0 && (x1.toList == y1.toList && (x2 == y2))) w := by
  refine eqA_of Try.underlying95 (by kernel_rfl) ?_
  refine eqf_cons (by rfl) (by go_simp; rfl) (by go_simp; rfl) (by go_simp) ?_
  refine eqf_cons (by rfl) (by go_simp; rfl) (by go_simp; rfl) (by go_simp) ?_
  exact eqf_last (by rfl) (by go_simp; rfl) (by go_simp; rfl) (by go_simp)
theorem eqA97 (d : Nat) (w : World) (x0 y0 : Bool) (x1 y1 : ByteArray) (x2 y2 : Int) (x3 y3 : Bool) (x4 y4 : ByteArray) (x5 y5 : Int) :
    (Op.equalIn (d + 3) 97 (.agg #[.bool x0, .string x1, .int .i64 x2, .bool x3, .string x4, .int .i64 x5]) (.agg #[.bool y0, .string y1, .int .i64 y2, .bool y3, .string y4, .int .i64 y5])).run Try.prog w = .ok ((x0 == y0 && (x1.toList == y1.toList && (x2 == y2))) && ((x3 == y3 && (x4.toList == y4.toList && (x5 == y5))))) w := by
  refine eqA_of Try.underlying97 (by kernel_rfl) ?_
  refine eqf_cons (by rfl) (by go_simp) (by go_simp) (eqA95 (d + 0) w _ _ _ _ _ _) ?_
  exact eqf_last (by rfl) (by go_simp) (by go_simp) (eqA95 (d + 0) w _ _ _ _ _ _)
end Go.Proofs.Ytjdkkfbcpbjpkaa.PFnExactEqualBrowsers
