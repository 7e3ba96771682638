import Derived.Test.YtnimkmkapajnhaaDoorRBQAx0
namespace Go.Proofs.YtnimkmkapajnhaaDoor.QA
open Go.RowKit Go.Proofs.YtnimkmkapajnhaaDoorW.PrintWords Go.Proofs.YtnimkmkapajnhaaDoorW.PrintLast Go.Proofs.YtnimkmkapajnhaaDoorW.PrintMore
attribute [local go_sem] yE yA yI yJ wY wX yC yD
set_option linter.unusedVariables false
set_option linter.unusedSimpArgs false
theorem eqA44 (d:Nat) (w:World) (x0 y0:Int) (x1 y1:Int) :
  (Op.equalIn (d+2) 44 (.agg #[.int .i64 x0,.int .i64 x1]) (.agg #[.int .i64 y0,.int .i64 y1])).run Tryd.prog w = .ok (x0 == y0 && (x1 == y1)) w:=by
 refine eqA_of Tryd.underlying44 (zz0) ?_;refine eqf_cons (zz25) (by go_simp;rfl) (by go_simp;rfl) (by go_simp) ?_
 exact eqf_last (zz25) (by go_simp;rfl) (by go_simp;rfl) (by go_simp)
end Go.Proofs.YtnimkmkapajnhaaDoor.QA
