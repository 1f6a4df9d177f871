/- The plain statement of ValueVariables: the walk shows that the answer is always true. -/
import Derived.Test.YtdigjjncoeaiiaaStmValueVariables
namespace Go.Proofs.Ytdigjjncoeaiiaa.ValueVariablesPure
open Go.RowKit Go.Proofs.Ytdigjjncoeaiiaa.PAll Go.Proofs.YtdigjjncoeaiiaaW.PrintWords Go.Proofs.YtdigjjncoeaiiaaW.PrintLast Go.Proofs.YtdigjjncoeaiiaaW.PrintMore Go.Proofs.YtdigjjncoeaiiaaGopen

theorem proved : ValueVariablesStm.Pure := by
  intro _ _ _ _ _ _ _ _ _ _
  rfl

end Go.Proofs.Ytdigjjncoeaiiaa.ValueVariablesPure
