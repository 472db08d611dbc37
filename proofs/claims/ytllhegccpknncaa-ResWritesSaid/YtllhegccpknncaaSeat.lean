/-
  What this translation is once for all.
-/
import Derived.Test.YtllhegccpknncaaSlo
import Derived.Test.YtllhegccpknncaaProg
set_option linter.unusedVariables false
set_option linter.unusedSimpArgs false
set_option linter.unusedSectionVars false
namespace Go.Proofs.Ytllhegccpknncaa
theorem Try_mixed : Try.prog.follows .mixedOrders = true := by kernel_rfl
end Go.Proofs.Ytllhegccpknncaa
