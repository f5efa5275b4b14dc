/-
  WHAT THE INTERPRETER ANSWERS (5): calls and their answers, each run by the kernel.
-/
import Derived.Test.YtdlfjlfhbgppaaaGreatSyncNamesRunD
set_option linter.unusedVariables false
namespace Go.Vm
set_option maxRecDepth 1000000
def K19 : Known := ⟨4, [], .d (.bool true), ⟨[], 1⟩⟩
theorem h19 : EvC prog K19.f K19.args ⟨[], 0⟩ K19.v K19.hs := known_ev (knows_cons h17 (knows_cons h6 (knows_cons h5 (knows_cons h4 (knows_cons h3 (knows_cons h2 (knows_cons h1 (knows_cons h0 (knows_cons h18 (knows_cons h16 (knows_cons h14 knows_nil))))))))))) 400 (by kernel_rfl)
end Go.Vm
