/-
  WHAT THE INTERPRETER ANSWERS (3): calls and their answers, each run by the kernel.
-/
import Derived.Test.YtdlfjlfhbgppaaaGreatMendNamesRunB
set_option linter.unusedVariables false
namespace Go.Vm
set_option maxRecDepth 1000000
def K12 : Known := ⟨3, [], .d (.bool true), ⟨[(0, .cells [.own false 9 [[I 0, Y 3, Y 0, I 0, .lst [[I 1]], .lst [[.lst []]], .lst [[.lst []]], .lst [[.lst []]], .lst (List.replicate 256 ([I 0]))]], .d (.bool false), .d (I 0), .nl, .d (.lst [])]), (1, .cells [.nl, .d (.bool false), .d (I 0), .nl, .nl]), (2, .cells [.nl, .d (.bool false), .d (I 0), .nl, .nl])], 3⟩⟩
theorem h12 : EvC prog K12.f K12.args ⟨[], 0⟩ K12.v K12.hs := known_ev (knows_cons h0 (knows_cons h7 (knows_cons h3 (knows_cons h5 (knows_cons h2 (knows_cons h9 (knows_cons h8 (knows_cons h11 knows_nil)))))))) 400 (by kernel_rfl)
end Go.Vm
