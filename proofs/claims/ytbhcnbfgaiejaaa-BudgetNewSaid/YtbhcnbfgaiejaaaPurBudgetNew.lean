/- The pure law of BudgetNew: its walk has shown that it answers true. -/
import Derived.Test.YtbhcnbfgaiejaaaPBudx4
import Derived.OpenShut
set_option linter.unusedVariables false
namespace Go.Proofs.Ytbhcnbfgaiejaaa.PBud
end Go.Proofs.Ytbhcnbfgaiejaaa.PBud
namespace Go.Proofs.Ytbhcnbfgaiejaaa.Pure
open Go.Proofs.Ytbhcnbfgaiejaaa.PBud
theorem BudgetNew (a0 : Int) (h0 : (Lit.int .i64 a0).wf = true) : intervalmonlaw17_BudgetNew.f a0 = some true := rfl
end Go.Proofs.Ytbhcnbfgaiejaaa.Pure
