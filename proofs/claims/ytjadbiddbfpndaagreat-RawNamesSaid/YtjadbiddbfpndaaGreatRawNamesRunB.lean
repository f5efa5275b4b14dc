/-
  WHAT THE INTERPRETER ANSWERS (2): calls and their answers, each run by the kernel.
-/
import Derived.Test.YtjadbiddbfpndaaGreatRawNamesRunA
set_option linter.unusedVariables false
namespace Go.Vm
set_option maxRecDepth 1000000
def K9 : Known := ⟨4, [], .d (.bool true), ⟨[(0, .cells [.junk, .junk, .junk, .junk]), (1, .cells [.junk, .junk, .junk, .junk, .junk]), (2, .cells [.nl, .d (.bool false), .d (I 0), .nl, .nl]), (3, .cells [.nl, .d (.bool false), .d (I 0), .nl, .nl]), (4, .cells [.nl, .d (.bool false), .d (I 0), .nl, .nl])], 5⟩⟩
theorem h9 : EvC prog K9.f K9.args ⟨[], 0⟩ K9.v K9.hs := known_ev (knows_cons h8 (knows_cons h7 (knows_cons h5 (knows_cons h6 (knows_cons h3 knows_nil))))) 400 (by kernel_rfl)
end Go.Vm
